/- no condition -/
import Derived.Test.YthidbgihjhkjaaaRows
import Derived.Test.YthidbgihjhkjaaaActOnFunActOn
import Derived.Test.YthidbgihjhkjaaaActOnLawActOn
import Derived.Test.YthidbgihjhkjaaaPiD
import Derived.WalkKit
import Derived.OpenShut
import Derived.ShutString
import Derived.ChangeOld
import Derived.Below
import Derived.SizedLaws
set_option linter.all false
namespace Go.Proofs.Ythidbgihjhkjaaa
open Go Go.Proofs Go.Pi Go.ChangeShapes Go.WideShapes Go.ChangeAt Go.RowKit Go.Pi.Ythidbgihjhkjaaa.ActOn
set_option maxRecDepth 100000
set_option linter.all false
theorem wfi_i64 {n : Int} (h : (Lit.int .i64 n).wf = true) : -9223372036854775808 ≤ n ∧ n ≤ 9223372036854775807 := by simp [Lit.wf, IntKind.min, IntKind.max, IntKind.bits, IntKind.signed] at h; omega
section
variable {H : Type} {enc : TypeId × Value → H} {w : World} {base : Nat} {spare : Nat → Bool} {held : Bool}
theorem op3 : Opens enc Try.prog w base spare held 3 (fun x : Int => wfInt x) encInt := (opens_int Try.underlying3).map id (fun a h => ⟨wfi_i64 h, rfl⟩)
theorem op50 : Opens enc Try.prog w base spare held 50 (fun x : Acn => wfAcn x) encAcn := (opens_struct Try.underlying50 (by kernel_rfl) (seg_cons op3 (seg_cons op3 (seg_nil)))).map (fun p => (⟨p.1, p.2.1⟩ : Acn)) (fun p hp => ⟨by obtain ⟨h0, h1, _⟩ := hp; exact ⟨h0, h1⟩, rfl⟩)
theorem op23 : Opens enc Try.prog w base spare held 23 (fun x : Prefix => wfPrefix x) encPrefix := (opens_struct Try.underlying23 (by kernel_rfl) (seg_cons op3 (seg_cons op3 (seg_nil)))).map (fun p => (⟨p.1, p.2.1⟩ : Prefix)) (fun p hp => ⟨by obtain ⟨h0, h1, _⟩ := hp; exact ⟨h0, h1⟩, rfl⟩)
theorem op24 : Opens enc Try.prog w base spare held 24 (fun x : (List Int) => wfLInt x) (encLInt .imm) := (opens_slice (e := 3) Try.underlying24 (of_decide_eq_true (by kernel_rfl)) op3).map id (fun a ga => ⟨⟨ga.2, ga.1⟩, by rw [(by kernel_rfl : Try.prog.cellsOf 3 = 1)]; rfl⟩)
theorem op26 : Opens enc Try.prog w base spare held 26 (fun x : Attrs => wfAttrs x) (encAttrs .imm) := (opens_struct Try.underlying26 (by kernel_rfl) (seg_cons op3 (seg_cons op24 (seg_cons op3 (seg_cons op3 (seg_cons op3 (seg_cons op24 (seg_nil)))))))).map (fun p => (⟨p.1, p.2.1, p.2.2.1, p.2.2.2.1, p.2.2.2.2.1, p.2.2.2.2.2.1⟩ : Attrs)) (fun p hp => ⟨by obtain ⟨h0, h1, h2, h3, h4, h5, _⟩ := hp; exact ⟨h0, h1, h2, h3, h4, h5⟩, rfl⟩)
theorem op28 : Opens enc Try.prog w base spare held 28 (fun x : Route => wfRoute x) (encRoute .imm) := (opens_struct Try.underlying28 (by kernel_rfl) (seg_cons op23 (seg_cons op26 (seg_nil)))).map (fun p => (⟨p.1, p.2.1⟩ : Route)) (fun p hp => ⟨by obtain ⟨h0, h1, _⟩ := hp; exact ⟨h0, h1⟩, rfl⟩)
end
theorem own : ownKnob Try.prog.godebug = none := by kernel_rfl
theorem laid : laidOutB Try.prog = true := by kernel_rfl
set_option maxRecDepth 100000 in
theorem lifted5 (os : Os) (started : os.Started) (H : Type) (enc : TypeId × Value → H) : ReturnsInHanded {} Try.checked os 5 .any (Rows.fnExactActOnSpec.pre6 enc Try.prog Try.f5 Rows.fnExactActOnRow.domain false) (Rows.fnExactActOnSpec.post enc Try.prog Try.f5 false true false false) := by
 refine returnsInHanded_of_change_sized (C := Try.checked) own started (by kernel_rfl) Try.func5 (ChangeSpec.witness6 (enc := enc) (C := Try.checked) false ⟨#[], #[.agg #[.int .i64 0, .int .i64 0], .agg #[.int .i64 0, .int .i64 0, .int .i64 0, .slice none 0 0, .int .i64 0, .int .i64 0, .int .i64 0, .slice none 0 0]], []⟩ 8 (by kernel_rfl) (by kernel_rfl) (by kernel_rfl) (by kernel_rfl)) ?_
 intro W base args ds gs before hval0 hW hcnd hsz0 _
 have hval : ∀ (j : Nat) t v, Try.f5.params[j]? = some t → args[j]? = some v → Value.okWide Try.prog W .any base t v := hval0
 have hW1 := hW
 obtain ⟨p, q, hA0, hV, rfl, hfz, hnd⟩ := hW
 have hA : DataW.TrodAll enc Try.prog W 0 (fun _ => true) true Try.f5.params.toList args.toList ds p := hA0
 rw [Try.params5] at hA hval
 obtain ⟨v0, vs0, d0, ds0, p0, q0, hargs, rfl, rfl, h0, r0⟩ := trodAll_cons hA
 obtain ⟨v1, vs1, d1, ds1, p1, q1, rfl, rfl, rfl, h1, r1⟩ := trodAll_cons r0
 obtain ⟨rfl, rfl, rfl⟩ := trodAll_nil r1
 obtain rfl : args = #[v0, v1] := by cases args; simp_all
 obtain ⟨rfl, rfl⟩ := trodVars_none hV
 obtain ⟨c0, rfl, _⟩ := okWide_struct Try.underlying50 (hval 0 50 v0 rfl rfl)
 obtain ⟨a0, g0, k0⟩ := arg_agg op50 h0 (fun a => by simp [encAcn, immTop])
 obtain ⟨c1, rfl, _⟩ := okWide_struct Try.underlying28 (hval 1 28 v1 rfl rfl)
 obtain ⟨a1, g1, k1⟩ := arg_agg op28 h1 (fun a => by simp [encRoute, immTop])
 have hl : ∀ x ∈ p0 ++ p1, x.block < W.heap.size := fun x hx => hW1.lt x (by simpa using hx)
 refine (row_calls tab (us := [.agg c0, .agg c1]) (e5 a0 a1 true (law a0 a1 g0 g1)) rfl (fun i hi => ?_)).mono fun e W1 ⟨he, bel⟩ => ?_
 · match i, hi with
   | 0, _ => exact k0
   | 1, _ => exact k1
   | n + 2, h => exact absurd h (by simp)
 subst he
 exact ⟨_, rfl, _, _, _, [], _, [], hW1, trodAll_mk1 (shut_bool Try.underlying4 _), (trodAll_cons_mk (Below.trod laid (by kernel_rfl) (of_decide_eq_true (by kernel_rfl)) h0 bel (fun x hx => hl x (by simp [hx]))) (trodAll_cons_mk (Below.trod laid (by kernel_rfl) (of_decide_eq_true (by kernel_rfl)) h1 bel (fun x hx => hl x (by simp [hx]))) trodAll_mk0)), rfl, bel.frame _, fun h => by cases h⟩
theorem over5 : Rows.fnExactActOnRow.holds Try.pinned (OpenSpec.ofChange Rows.fnExactActOnSpec) :=
 OpenClaim.holds_of_wide 5 Try.f5 rfl rfl rfl rfl rfl rfl rfl ⟨rfl, rfl, rfl, rfl, rfl⟩ rfl rfl rfl rfl rfl (by kernel_rfl) Try.func5 (by kernel_rfl)
  (of_decide_eq_true (by kernel_rfl)) (by unfold Func.isWrapper; first | (rw [if_pos (by decide +kernel)]; kernel_rfl) | (rw [if_neg (by decide +kernel)]; exact ⟨rfl, rfl⟩))
  (fun os started H enc _ => lifted5 os started H enc)
theorem fnExactActOn_holds : Rows.FnExactActOnSaid := over5
#print axioms fnExactActOn_holds
end Go.Proofs.Ythidbgihjhkjaaa
