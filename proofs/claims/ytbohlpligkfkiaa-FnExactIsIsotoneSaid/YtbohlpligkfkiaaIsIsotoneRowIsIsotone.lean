/- What functions of the program answer, and that the law answers true at every input; no condition -/
import Derived.Test.YtbohlpligkfkiaaRows
import Derived.Test.YtbohlpligkfkiaaIsIsotoneEqIsIsotone
import Derived.Test.YtbohlpligkfkiaaPiC
import Derived.WalkKit
import Derived.OpenShut
import Derived.ShutString
import Derived.ChangeOld
import Derived.Below
import Derived.SizedLaws
set_option linter.all false
/- Functions of the program, by equations. -/
namespace Go.Proofs.Ytbohlpligkfkiaa
open Go Go.Proofs Go.Pi Go.ChangeShapes Go.WideShapes Go.ChangeAt Go.RowKit Go.Pi.Ytbohlpligkfkiaa.IsIsotone
set_option maxRecDepth 100000
set_option linter.unusedSimpArgs false
set_option linter.unusedVariables false
-- laws.FnExactIsIsotone
@[simp] theorem call5 {m : Nat} (args : List AV) (S : St) : evCall T m (evFL T) 5 args S = lendC (evFL T 5) S (lendAll S i5.pes args) := evCall0 fn5 rfl rfl args S
@[simp] theorem callz5 (args : List AV) (S : St) : evCallFz T (evFL T) 5 args S = lendZ (evFL T 5) S i5.res (lendAll S i5.pes args) := evCallFz0 fn5 rfl rfl args S
@[simp] theorem pes5 : i5.pes = [[0, 1]] := rfl
@[simp] theorem body5 : i5.body = c5 := rfl
@[simp] theorem kind5 : i5.kind = 0 := rfl
@[simp] theorem tree5 : i5.tree = false := rfl
@[simp] theorem ntmps5 : i5.ntmps = 40 := rfl
@[simp] theorem results5 : i5.results = [(ResultVar.tmp 2)] := rfl
@[simp] theorem res5 : i5.res = [[0]] := rfl
theorem e5 (a_weights : Int) (a_apply : (List (List Int))) (w_a0 : a_apply.length ≤ 9223372036854775807) (w_a1 : wfsLInt a_apply) : evFL T 5 [.agg [.int .i64 a_weights, .ts .imm 1 (a_apply.map (encLInt .imm))]] [] = some (.bool true, []) := by
  rw [evFL_at fn5 (by simp)]
  have le0 := szAlgebra_le (⟨a_weights, a_apply⟩ : Algebra) (1048576) (by omega)
  have es0 := e12 a_weights a_apply (1048576) w_a0 w_a1 (by omega) (by omega)
  by_cases hc0 : szAlgebra (⟨a_weights, a_apply⟩ : Algebra) (1048576) < 0
  · simp -implicitDefEqProofs [c5, r5_0, r5_1, r5_2, r5_3, r5_4, r5_5, r5_6, r5_7, r5_8, r5_9, r5_10, r5_11, r5_12, w_a0, w_a1, call12, callz12, e12, call14, callz14, e14, call16, callz16, e16, call19, callz19, e19, call20, callz20, e20, -List.getElem?_map, -getElem?_pos, List.getElem?_cons_zero, map_get, -List.map_take, -List.map_drop, take_map, drop_map, upd_ne, frOf_set, frOf_get, frOf_getD, es0, hc0]
  obtain ⟨s_a0, s_a1⟩ := le0.2.2 (by omega) (by omega)
  try dsimp only at s_a0 s_a1
  have e_to_a := e14 a_weights a_apply s_a0 s_a1
  have e_eq_a := e16 a_weights a_apply s_a0 s_a1
  have e_spec := e19 a_weights a_apply s_a0 s_a1
  have e_impl := e20 a_weights a_apply s_a0 s_a1
  simp -implicitDefEqProofs [c5, r5_0, r5_1, r5_2, r5_3, r5_4, r5_5, r5_6, r5_7, r5_8, r5_9, r5_10, r5_11, r5_12, w_a0, w_a1, call12, callz12, e12, call14, callz14, e14, call16, callz16, e16, call19, callz19, e19, call20, callz20, e20, -List.getElem?_map, -getElem?_pos, List.getElem?_cons_zero, map_get, -List.map_take, -List.map_drop, take_map, drop_map, upd_ne, frOf_set, frOf_get, frOf_getD, es0, e_to_a, e_eq_a, e_spec, e_impl, hc0, s_a0, s_a1]
section
variable {H : Type} {enc : TypeId × Value → H} {w : World} {base : Nat} {spare : Nat → Bool} {held : Bool}
theorem op3 : Opens enc Try.prog w base spare held 3 (fun x : Int => True) encInt := (opens_int Try.underlying3).map id (fun a _ => ⟨trivial, rfl⟩)
theorem op38 : Opens enc Try.prog w base spare held 38 (fun x : (List Int) => wfLInt x) (encLInt .imm) := (opens_slice (e := 3) Try.underlying38 (of_decide_eq_true (by kernel_rfl)) op3).map id (fun a ga => ⟨ga.2, by rw [(by kernel_rfl : Try.prog.cellsOf 3 = 1)]; rfl⟩)
theorem op22 : Opens enc Try.prog w base spare held 22 (fun x : (List (List Int)) => wfLLInt x) (encLLInt .imm) := (opens_slice (e := 38) Try.underlying22 (of_decide_eq_true (by kernel_rfl)) op38).map id (fun a ga => ⟨⟨ga.2, ga.1⟩, by rw [(by kernel_rfl : Try.prog.cellsOf 38 = 1)]; rfl⟩)
theorem op24 : Opens enc Try.prog w base spare held 24 (fun x : Algebra => wfAlgebra x) (encAlgebra .imm) := (opens_struct Try.underlying24 (by kernel_rfl) (seg_cons op3 (seg_cons op22 (seg_nil)))).map (fun p => (⟨p.1, p.2.1⟩ : Algebra)) (fun p hp => ⟨by obtain ⟨_, ⟨h1_0, h1_1⟩, _⟩ := hp; unfold wfAlgebra; exact ⟨h1_0, h1_1⟩, rfl⟩)
end
theorem own : ownKnob Try.prog.godebug = none := by kernel_rfl
theorem laid : laidOutB Try.prog = true := by kernel_rfl
set_option maxRecDepth 100000 in
theorem lifted5 (os : Os) (started : os.Started) (H : Type) (enc : TypeId × Value → H) : ReturnsInHanded {} Try.checked os 5 .any (Rows.fnExactIsIsotoneSpec.pre6 enc Try.prog Try.f5 Rows.fnExactIsIsotoneRow.domain false) (Rows.fnExactIsIsotoneSpec.post enc Try.prog Try.f5 false true false false) := by
  refine returnsInHanded_of_change_sized (C := Try.checked) own started (by kernel_rfl) Try.func5 (ChangeSpec.witness6 (enc := enc) (C := Try.checked) false ⟨#[], #[.agg #[.int .i64 0, .slice none 0 0]], []⟩ 8 (by kernel_rfl) (by kernel_rfl) (by kernel_rfl) (by kernel_rfl)) ?_
  intro W base args ds gs before hval0 hW hcnd hsz0 _
  have hval : ∀ (j : Nat) t v, Try.f5.params[j]? = some t → args[j]? = some v → Value.okWide Try.prog W .any base t v := hval0
  have hW1 := hW
  obtain ⟨p, q, hA0, hV, rfl, hfz, hnd⟩ := hW
  have hA : DataW.TrodAll enc Try.prog W 0 (fun _ => true) true Try.f5.params.toList args.toList ds p := hA0
  rw [Try.params5] at hA hval
  obtain ⟨v0, vs0, d0, ds0, p0, q0, hargs, rfl, rfl, h0, r0⟩ := trodAll_cons hA
  obtain ⟨rfl, rfl, rfl⟩ := trodAll_nil r0
  obtain rfl : args = #[v0] := by cases args; simp_all
  obtain ⟨rfl, rfl⟩ := trodVars_none hV
  obtain ⟨c0, rfl, _⟩ := okWide_struct Try.underlying24 (hval 0 24 v0 rfl rfl)
  obtain ⟨a0, g0, k0⟩ := arg_agg op24 h0 (fun a => by simp [encAlgebra, immTop])
  obtain ⟨g0_0, g0_1⟩ := g0
  have hl : ∀ x ∈ p0, x.block < W.heap.size := fun x hx => hW1.lt x (by simpa using hx)
  refine (row_calls tab (us := [.agg c0]) (e5 a0.weights a0.apply g0_0 g0_1) rfl (fun i hi => ?_)).mono fun e W1 ⟨he, bel⟩ => ?_
  · match i, hi with
    | 0, _ => exact k0
    | n + 1, h => exact absurd h (by simp)
  subst he
  exact ⟨_, rfl, _, _, _, [], _, [], hW1, trodAll_mk1 (shut_bool Try.underlying4 _), (trodAll_cons_mk (Below.trod laid (by kernel_rfl) (of_decide_eq_true (by kernel_rfl)) h0 bel (fun x hx => hl x (by simp [hx]))) trodAll_mk0), rfl, bel.frame _, fun h => by cases h⟩
theorem over5 : Rows.fnExactIsIsotoneRow.holds Try.pinned (OpenSpec.ofChange Rows.fnExactIsIsotoneSpec) :=
  OpenClaim.holds_of_wide 5 Try.f5 rfl rfl rfl rfl rfl rfl rfl ⟨rfl, rfl, rfl, rfl, rfl⟩ rfl rfl rfl rfl rfl (by kernel_rfl) Try.func5 (by kernel_rfl)
    (of_decide_eq_true (by kernel_rfl)) (by unfold Func.isWrapper; first | (rw [if_pos (by decide +kernel)]; kernel_rfl) | (rw [if_neg (by decide +kernel)]; exact ⟨rfl, rfl⟩))
    (fun os started H enc _ => lifted5 os started H enc)
theorem fnExactIsIsotone_holds : Rows.FnExactIsIsotoneSaid := over5
#print axioms fnExactIsIsotone_holds
end Go.Proofs.Ytbohlpligkfkiaa
