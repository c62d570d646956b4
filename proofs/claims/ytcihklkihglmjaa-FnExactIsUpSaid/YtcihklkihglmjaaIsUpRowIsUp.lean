/- What functions of the program answer, and that the law answers true at every input; no condition -/
import Derived.Test.YtcihklkihglmjaaRows
import Derived.Test.YtcihklkihglmjaaIsUpEqIsUp
import Derived.Test.YtcihklkihglmjaaPiC
import Derived.WalkKit
import Derived.OpenShut
import Derived.ShutString
import Derived.ChangeOld
import Derived.Below
import Derived.SizedLaws
set_option linter.all false
/- Functions of the program, by equations. -/
namespace Go.Proofs.Ytcihklkihglmjaa
open Go Go.Proofs Go.Pi Go.ChangeShapes Go.WideShapes Go.ChangeAt Go.RowKit Go.Pi.Ytcihklkihglmjaa.IsUp
set_option maxRecDepth 100000
set_option linter.unusedSimpArgs false
set_option linter.unusedVariables false
-- laws.FnExactIsUp
@[simp] theorem call5 {m : Nat} (args : List AV) (S : St) : evCall T m (evFL T) 5 args S = lendC (evFL T 5) S (lendAll S i5.pes args) := evCall0 fn5 rfl rfl args S
@[simp] theorem callz5 (args : List AV) (S : St) : evCallFz T (evFL T) 5 args S = lendZ (evFL T 5) S i5.res (lendAll S i5.pes args) := evCallFz0 fn5 rfl rfl args S
@[simp] theorem pes5 : i5.pes = [[0, 0, 0, 0, 0]] := rfl
@[simp] theorem body5 : i5.body = c5 := rfl
@[simp] theorem kind5 : i5.kind = 0 := rfl
@[simp] theorem tree5 : i5.tree = false := rfl
@[simp] theorem ntmps5 : i5.ntmps = 27 := rfl
@[simp] theorem results5 : i5.results = [(ResultVar.tmp 2)] := rfl
@[simp] theorem res5 : i5.res = [[0]] := rfl
theorem e5 (s_state : Int) (s_hold : Int) (s_left : Int) (s_quiet : Int) (s_ups : Int)  : evFL T 5 [.agg [.int .i64 s_state, .int .i64 s_hold, .int .i64 s_left, .int .i64 s_quiet, .int .i64 s_ups]] [] = some (.bool true, []) := by
  rw [evFL_at fn5 (by simp)]
  have e_to_s := e15 s_state s_hold s_left s_quiet s_ups 
  have e_spec := e17 s_state s_hold s_left s_quiet s_ups 
  have e_impl := e18 s_state s_hold s_left s_quiet s_ups 
  simp -implicitDefEqProofs [c5, r5_0, r5_1, r5_2, r5_3, r5_4, r5_5, call15, callz15, e15, call17, callz17, e17, call18, callz18, e18, -List.getElem?_map, -getElem?_pos, List.getElem?_cons_zero, map_get, -List.map_take, -List.map_drop, take_map, drop_map, upd_ne, frOf_set, frOf_get, frOf_getD, e_to_s, e_spec, e_impl]
section
variable {H : Type} {enc : TypeId × Value → H} {w : World} {base : Nat} {spare : Nat → Bool} {held : Bool}
theorem op3 : Opens enc Try.prog w base spare held 3 (fun x : Int => True) encInt := (opens_int Try.underlying3).map id (fun a _ => ⟨trivial, rfl⟩)
theorem op28 : Opens enc Try.prog w base spare held 28 (fun x : Session => True) encSession := (opens_struct Try.underlying28 (by kernel_rfl) (seg_cons op3 (seg_cons op3 (seg_cons op3 (seg_cons op3 (seg_cons op3 (seg_nil))))))).map (fun p => (⟨p.1, p.2.1, p.2.2.1, p.2.2.2.1, p.2.2.2.2.1⟩ : Session)) (fun p hp => ⟨trivial, rfl⟩)
end
theorem own : ownKnob Try.prog.godebug = none := by kernel_rfl
theorem laid : laidOutB Try.prog = true := by kernel_rfl
set_option maxRecDepth 100000 in
theorem lifted5 (os : Os) (started : os.Started) (H : Type) (enc : TypeId × Value → H) : ReturnsInHanded {} Try.checked os 5 .any (Rows.fnExactIsUpSpec.pre6 enc Try.prog Try.f5 Rows.fnExactIsUpRow.domain false) (Rows.fnExactIsUpSpec.post enc Try.prog Try.f5 false true false false) := by
  refine returnsInHanded_of_change_sized (C := Try.checked) own started (by kernel_rfl) Try.func5 (ChangeSpec.witness6 (enc := enc) (C := Try.checked) false ⟨#[], #[.agg #[.int .i64 0, .int .i64 0, .int .i64 0, .int .i64 0, .int .i64 0]], []⟩ 8 (by kernel_rfl) (by kernel_rfl) (by kernel_rfl) (by kernel_rfl)) ?_
  intro W base args ds gs before hval0 hW hcnd hsz0 _
  have hval : ∀ (j : Nat) t v, Try.f5.params[j]? = some t → args[j]? = some v → Value.okWide Try.prog W .any base t v := hval0
  have hW1 := hW
  obtain ⟨p, q, hA0, hV, rfl, hfz, hnd⟩ := hW
  have hA : DataW.TrodAll enc Try.prog W 0 (fun _ => true) true Try.f5.params.toList args.toList ds p := hA0
  rw [Try.params5] at hA hval
  obtain ⟨v0, vs0, d0, ds0, p0, q0, hargs, rfl, rfl, h0, r0⟩ := trodAll_cons hA
  obtain ⟨rfl, rfl, rfl⟩ := trodAll_nil r0
  obtain rfl : args = #[v0] := by cases args; simp_all
  obtain ⟨rfl, rfl⟩ := trodVars_none hV
  obtain ⟨c0, rfl, _⟩ := okWide_struct Try.underlying28 (hval 0 28 v0 rfl rfl)
  obtain ⟨a0, g0, k0⟩ := arg_agg op28 h0 (fun a => by simp [encSession, immTop])
  have hl : ∀ x ∈ p0, x.block < W.heap.size := fun x hx => hW1.lt x (by simpa using hx)
  refine (row_calls tab (us := [.agg c0]) (e5 a0.state a0.hold a0.left a0.quiet a0.ups ) rfl (fun i hi => ?_)).mono fun e W1 ⟨he, bel⟩ => ?_
  · match i, hi with
    | 0, _ => exact k0
    | n + 1, h => exact absurd h (by simp)
  subst he
  exact ⟨_, rfl, _, _, _, [], _, [], hW1, trodAll_mk1 (shut_bool Try.underlying4 _), (trodAll_cons_mk (Below.trod laid (by kernel_rfl) (of_decide_eq_true (by kernel_rfl)) h0 bel (fun x hx => hl x (by simp [hx]))) trodAll_mk0), rfl, bel.frame _, fun h => by cases h⟩
theorem over5 : Rows.fnExactIsUpRow.holds Try.pinned (OpenSpec.ofChange Rows.fnExactIsUpSpec) :=
  OpenClaim.holds_of_wide 5 Try.f5 rfl rfl rfl rfl rfl rfl rfl ⟨rfl, rfl, rfl, rfl, rfl⟩ rfl rfl rfl rfl rfl (by kernel_rfl) Try.func5 (by kernel_rfl)
    (of_decide_eq_true (by kernel_rfl)) (by unfold Func.isWrapper; first | (rw [if_pos (by decide +kernel)]; kernel_rfl) | (rw [if_neg (by decide +kernel)]; exact ⟨rfl, rfl⟩))
    (fun os started H enc _ => lifted5 os started H enc)
theorem fnExactIsUp_holds : Rows.FnExactIsUpSaid := over5
#print axioms fnExactIsUp_holds
end Go.Proofs.Ytcihklkihglmjaa
