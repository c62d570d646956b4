/- What functions of the program answer, and that the law answers true at every input; no condition -/
import Derived.Test.YtbohlpligkfkiaaRows
import Derived.Test.YtbohlpligkfkiaaWeightOfEqWeightOf
import Derived.Test.YtbohlpligkfkiaaPiC
import Derived.WalkKit
import Derived.OpenShut
import Derived.ShutString
import Derived.ChangeOld
import Derived.Below
import Derived.SizedLaws
set_option linter.all false
/- Functions of the program, by equations. -/
namespace Go.Proofs.Ytbohlpligkfkiaa
open Go Go.Proofs Go.Pi Go.ChangeShapes Go.WideShapes Go.ChangeAt Go.RowKit Go.Pi.Ytbohlpligkfkiaa.WeightOf
set_option maxRecDepth 100000
set_option linter.unusedSimpArgs false
set_option linter.unusedVariables false
-- laws.FnExactWeightOf
@[simp] theorem call7 {m : Nat} (args : List AV) (S : St) : evCall T m (evFL T) 7 args S = lendC (evFL T 7) S (lendAll S i7.pes args) := evCall0 fn7 rfl rfl args S
@[simp] theorem callz7 (args : List AV) (S : St) : evCallFz T (evFL T) 7 args S = lendZ (evFL T 7) S i7.res (lendAll S i7.pes args) := evCallFz0 fn7 rfl rfl args S
@[simp] theorem pes7 : i7.pes = [[0, 1], [3], [1]] := rfl
@[simp] theorem body7 : i7.body = c7 := rfl
@[simp] theorem kind7 : i7.kind = 0 := rfl
@[simp] theorem tree7 : i7.tree = false := rfl
@[simp] theorem ntmps7 : i7.ntmps = 74 := rfl
@[simp] theorem results7 : i7.results = [(ResultVar.tmp 6)] := rfl
@[simp] theorem res7 : i7.res = [[0]] := rfl
theorem e7 (a_weights : Int) (a_apply : (List (List Int))) (l : (List Arc)) (p : (List Int)) (w_a0 : a_apply.length ≤ 9223372036854775807) (w_a1 : wfsLInt a_apply) (w_l0 : l.length ≤ 9223372036854775807) (w_p0 : p.length ≤ 9223372036854775807) : evFL T 7 [.agg [.int .i64 a_weights, .ts .imm 1 (a_apply.map (encLInt .imm))], .ts .imm 3 (l.map encArc), .ts .imm 1 (p.map encInt)] [] = some (.bool true, []) := by
  rw [evFL_at fn7 (by simp)]
  by_cases hn_p : (p.length : Int) > 1048576
  · simp -implicitDefEqProofs [c7, r7_0, r7_1, r7_2, r7_3, r7_4, r7_5, r7_6, r7_7, r7_8, r7_9, r7_10, r7_11, r7_12, r7_13, r7_14, r7_15, r7_16, r7_17, r7_18, r7_19, r7_20, r7_21, r7_22, r7_23, w_a0, w_a1, w_l0, w_p0, call12, callz12, e12, call14, callz14, e14, call16, callz16, e16, call25, callz25, e25, call26, callz26, e26, call27, callz27, e27, call28, callz28, e28, call29, callz29, e29, call30, callz30, e30, call31, callz31, e31, -List.getElem?_map, -getElem?_pos, List.getElem?_cons_zero, map_get, -List.map_take, -List.map_drop, take_map, drop_map, upd_ne, frOf_set, frOf_get, frOf_getD, hn_p]
  have s_p0 : p.length ≤ 1048576 := by omega
  have hm_p : ¬ ((1048576 : Int) < (p.length : Int)) := by omega
  have hq_p : ¬ (1048576 < p.length) := by omega
  have le0 := szAlgebra_le (⟨a_weights, a_apply⟩ : Algebra) (1048576) (by omega)
  have es0 := e12 a_weights a_apply (1048576) w_a0 w_a1 (by omega) (by omega)
  by_cases hc0 : szAlgebra (⟨a_weights, a_apply⟩ : Algebra) (1048576) < 0
  · simp -implicitDefEqProofs [c7, r7_0, r7_1, r7_2, r7_3, r7_4, r7_5, r7_6, r7_7, r7_8, r7_9, r7_10, r7_11, r7_12, r7_13, r7_14, r7_15, r7_16, r7_17, r7_18, r7_19, r7_20, r7_21, r7_22, r7_23, w_a0, w_a1, w_l0, w_p0, call12, callz12, e12, call14, callz14, e14, call16, callz16, e16, call25, callz25, e25, call26, callz26, e26, call27, callz27, e27, call28, callz28, e28, call29, callz29, e29, call30, callz30, e30, call31, callz31, e31, -List.getElem?_map, -getElem?_pos, List.getElem?_cons_zero, map_get, -List.map_take, -List.map_drop, take_map, drop_map, upd_ne, frOf_set, frOf_get, frOf_getD, es0, hm_p, hq_p, hc0]
  obtain ⟨s_a0, s_a1⟩ := le0.2.2 (by omega) (by omega)
  try dsimp only at s_a0 s_a1
  have le1 := szLArc_le l (szAlgebra (⟨a_weights, a_apply⟩ : Algebra) (1048576)) (by omega)
  have es1 := e25 l (szAlgebra (⟨a_weights, a_apply⟩ : Algebra) (1048576)) w_l0 (by omega) (by omega)
  by_cases hc1 : szLArc l (szAlgebra (⟨a_weights, a_apply⟩ : Algebra) (1048576)) < 0
  · simp -implicitDefEqProofs [c7, r7_0, r7_1, r7_2, r7_3, r7_4, r7_5, r7_6, r7_7, r7_8, r7_9, r7_10, r7_11, r7_12, r7_13, r7_14, r7_15, r7_16, r7_17, r7_18, r7_19, r7_20, r7_21, r7_22, r7_23, w_a0, w_a1, w_l0, w_p0, call12, callz12, e12, call14, callz14, e14, call16, callz16, e16, call25, callz25, e25, call26, callz26, e26, call27, callz27, e27, call28, callz28, e28, call29, callz29, e29, call30, callz30, e30, call31, callz31, e31, -List.getElem?_map, -getElem?_pos, List.getElem?_cons_zero, map_get, -List.map_take, -List.map_drop, take_map, drop_map, upd_ne, frOf_set, frOf_get, frOf_getD, es0, es1, hm_p, hq_p, hc0, hc1]
  obtain s_l0 := le1.2.2 (by omega) (by omega)
  try dsimp only at s_l0
  have e_to_a := e14 a_weights a_apply s_a0 s_a1
  have e_eq_a := e16 a_weights a_apply s_a0 s_a1
  have e_to_l := e27 l s_l0
  have e_eq_l := e30 l s_l0
  have e_to_p := e28 p s_p0
  have e_eq_p := e31 p s_p0
  have e_spec := e26 a_weights a_apply l p s_a0 s_a1 s_l0 s_p0
  have e_impl := e29 a_weights a_apply l p s_a0 s_a1 s_l0 s_p0
  simp -implicitDefEqProofs [c7, r7_0, r7_1, r7_2, r7_3, r7_4, r7_5, r7_6, r7_7, r7_8, r7_9, r7_10, r7_11, r7_12, r7_13, r7_14, r7_15, r7_16, r7_17, r7_18, r7_19, r7_20, r7_21, r7_22, r7_23, w_a0, w_a1, w_l0, w_p0, call12, callz12, e12, call14, callz14, e14, call16, callz16, e16, call25, callz25, e25, call26, callz26, e26, call27, callz27, e27, call28, callz28, e28, call29, callz29, e29, call30, callz30, e30, call31, callz31, e31, -List.getElem?_map, -getElem?_pos, List.getElem?_cons_zero, map_get, -List.map_take, -List.map_drop, take_map, drop_map, upd_ne, frOf_set, frOf_get, frOf_getD, es0, es1, hm_p, hq_p, e_to_a, e_eq_a, e_to_l, e_eq_l, e_to_p, e_eq_p, e_spec, e_impl, hc0, hc1, s_a0, s_a1, s_l0, s_p0]
section
variable {H : Type} {enc : TypeId × Value → H} {w : World} {base : Nat} {spare : Nat → Bool} {held : Bool}
theorem op3 : Opens enc Try.prog w base spare held 3 (fun x : Int => True) encInt := (opens_int Try.underlying3).map id (fun a _ => ⟨trivial, rfl⟩)
theorem op38 : Opens enc Try.prog w base spare held 38 (fun x : (List Int) => wfLInt x) (encLInt .imm) := (opens_slice (e := 3) Try.underlying38 (of_decide_eq_true (by kernel_rfl)) op3).map id (fun a ga => ⟨ga.2, by rw [(by kernel_rfl : Try.prog.cellsOf 3 = 1)]; rfl⟩)
theorem op22 : Opens enc Try.prog w base spare held 22 (fun x : (List (List Int)) => wfLLInt x) (encLLInt .imm) := (opens_slice (e := 38) Try.underlying22 (of_decide_eq_true (by kernel_rfl)) op38).map id (fun a ga => ⟨⟨ga.2, ga.1⟩, by rw [(by kernel_rfl : Try.prog.cellsOf 38 = 1)]; rfl⟩)
theorem op24 : Opens enc Try.prog w base spare held 24 (fun x : Algebra => wfAlgebra x) (encAlgebra .imm) := (opens_struct Try.underlying24 (by kernel_rfl) (seg_cons op3 (seg_cons op22 (seg_nil)))).map (fun p => (⟨p.1, p.2.1⟩ : Algebra)) (fun p hp => ⟨by obtain ⟨_, ⟨h1_0, h1_1⟩, _⟩ := hp; unfold wfAlgebra; exact ⟨h1_0, h1_1⟩, rfl⟩)
theorem op77 : Opens enc Try.prog w base spare held 77 (fun x : Arc => True) encArc := (opens_struct Try.underlying77 (by kernel_rfl) (seg_cons op3 (seg_cons op3 (seg_cons op3 (seg_nil))))).map (fun p => (⟨p.1, p.2.1, p.2.2.1⟩ : Arc)) (fun p hp => ⟨trivial, rfl⟩)
theorem op37 : Opens enc Try.prog w base spare held 37 (fun x : (List Arc) => wfLArc x) (encLArc .imm) := (opens_slice (e := 77) Try.underlying37 (of_decide_eq_true (by kernel_rfl)) op77).map id (fun a ga => ⟨ga.2, by rw [(by kernel_rfl : Try.prog.cellsOf 77 = 3)]; rfl⟩)
end
theorem own : ownKnob Try.prog.godebug = none := by kernel_rfl
theorem laid : laidOutB Try.prog = true := by kernel_rfl
set_option maxRecDepth 100000 in
theorem lifted7 (os : Os) (started : os.Started) (H : Type) (enc : TypeId × Value → H) : ReturnsInHanded {} Try.checked os 7 .any (Rows.fnExactWeightOfSpec.pre6 enc Try.prog Try.f7 Rows.fnExactWeightOfRow.domain false) (Rows.fnExactWeightOfSpec.post enc Try.prog Try.f7 false true false false) := by
  refine returnsInHanded_of_change_sized (C := Try.checked) own started (by kernel_rfl) Try.func7 (ChangeSpec.witness6 (enc := enc) (C := Try.checked) false ⟨#[], #[.agg #[.int .i64 0, .slice none 0 0], .slice none 0 0, .slice none 0 0], []⟩ 8 (by kernel_rfl) (by kernel_rfl) (by kernel_rfl) (by kernel_rfl)) ?_
  intro W base args ds gs before hval0 hW hcnd hsz0 _
  have hval : ∀ (j : Nat) t v, Try.f7.params[j]? = some t → args[j]? = some v → Value.okWide Try.prog W .any base t v := hval0
  have hW1 := hW
  obtain ⟨p, q, hA0, hV, rfl, hfz, hnd⟩ := hW
  have hA : DataW.TrodAll enc Try.prog W 0 (fun _ => true) true Try.f7.params.toList args.toList ds p := hA0
  rw [Try.params7] at hA hval
  obtain ⟨v0, vs0, d0, ds0, p0, q0, hargs, rfl, rfl, h0, r0⟩ := trodAll_cons hA
  obtain ⟨v1, vs1, d1, ds1, p1, q1, rfl, rfl, rfl, h1, r1⟩ := trodAll_cons r0
  obtain ⟨v2, vs2, d2, ds2, p2, q2, rfl, rfl, rfl, h2, r2⟩ := trodAll_cons r1
  obtain ⟨rfl, rfl, rfl⟩ := trodAll_nil r2
  obtain rfl : args = #[v0, v1, v2] := by cases args; simp_all
  obtain ⟨rfl, rfl⟩ := trodVars_none hV
  obtain ⟨c0, rfl, _⟩ := okWide_struct Try.underlying24 (hval 0 24 v0 rfl rfl)
  obtain ⟨a0, g0, k0⟩ := arg_agg op24 h0 (fun a => by simp [encAlgebra, immTop])
  obtain ⟨g0_0, g0_1⟩ := g0
  obtain ⟨b1, b11, b21, rfl⟩ := okWide_slice Try.underlying37 (hval 1 37 v1 rfl rfl)
  obtain ⟨a1, c1, g1, ec1, k1⟩ := arg_cell1 op37 h1 rfl (fun a => ⟨_, rfl, rfl⟩)
  obtain rfl : _ = c1 := (List.cons.inj ec1).1
  obtain ⟨b2, b12, b22, rfl⟩ := okWide_slice Try.underlying38 (hval 2 38 v2 rfl rfl)
  obtain ⟨a2, c2, g2, ec2, k2⟩ := arg_cell1 op38 h2 rfl (fun a => ⟨_, rfl, rfl⟩)
  obtain rfl : _ = c2 := (List.cons.inj ec2).1
  have hl : ∀ x ∈ p0 ++ p1 ++ p2, x.block < W.heap.size := fun x hx => hW1.lt x (by simpa using hx)
  refine (row_calls tab (us := [.agg c0, _, _]) (e7 a0.weights a0.apply a1 a2 g0_0 g0_1 g1 g2) rfl (fun i hi => ?_)).mono fun e W1 ⟨he, bel⟩ => ?_
  · match i, hi with
    | 0, _ => exact k0
    | 1, _ => exact k1
    | 2, _ => exact k2
    | n + 3, h => exact absurd h (by simp)
  subst he
  exact ⟨_, rfl, _, _, _, [], _, [], hW1, trodAll_mk1 (shut_bool Try.underlying4 _), (trodAll_cons_mk (Below.trod laid (by kernel_rfl) (of_decide_eq_true (by kernel_rfl)) h0 bel (fun x hx => hl x (by simp [hx]))) (trodAll_cons_mk (Below.trod laid (by kernel_rfl) (of_decide_eq_true (by kernel_rfl)) h1 bel (fun x hx => hl x (by simp [hx]))) (trodAll_cons_mk (Below.trod laid (by kernel_rfl) (of_decide_eq_true (by kernel_rfl)) h2 bel (fun x hx => hl x (by simp [hx]))) trodAll_mk0))), rfl, bel.frame _, fun h => by cases h⟩
theorem over7 : Rows.fnExactWeightOfRow.holds Try.pinned (OpenSpec.ofChange Rows.fnExactWeightOfSpec) :=
  OpenClaim.holds_of_wide 7 Try.f7 rfl rfl rfl rfl rfl rfl rfl ⟨rfl, rfl, rfl, rfl, rfl⟩ rfl rfl rfl rfl rfl (by kernel_rfl) Try.func7 (by kernel_rfl)
    (of_decide_eq_true (by kernel_rfl)) (by unfold Func.isWrapper; first | (rw [if_pos (by decide +kernel)]; kernel_rfl) | (rw [if_neg (by decide +kernel)]; exact ⟨rfl, rfl⟩))
    (fun os started H enc _ => lifted7 os started H enc)
theorem fnExactWeightOf_holds : Rows.FnExactWeightOfSaid := over7
#print axioms fnExactWeightOf_holds
end Go.Proofs.Ytbohlpligkfkiaa
