/- What functions of the program answer, and that the law answers true at every input; no condition -/
import Derived.Test.YtichbkallidkcaaRows
import Derived.Test.YtichbkallidkcaaMayTellEqMayTell
import Derived.Test.YtichbkallidkcaaPiC
import Derived.WalkKit
import Derived.OpenShut
import Derived.ShutString
import Derived.ChangeOld
import Derived.Below
import Derived.SizedLaws
set_option linter.all false
/- Functions of the program, by equations. -/
namespace Go.Proofs.Ytichbkallidkcaa
open Go Go.Proofs Go.Pi Go.ChangeShapes Go.WideShapes Go.ChangeAt Go.RowKit Go.Pi.Ytichbkallidkcaa.MayTell
set_option maxRecDepth 100000
set_option linter.unusedSimpArgs false
set_option linter.unusedVariables false
-- laws.FnExactMayTell
@[simp] theorem call5 {m : Nat} (args : List AV) (S : St) : evCall T m (evFL T) 5 args S = lendC (evFL T 5) S (lendAll S i5.pes args) := evCall0 fn5 rfl rfl args S
@[simp] theorem callz5 (args : List AV) (S : St) : evCallFz T (evFL T) 5 args S = lendZ (evFL T 5) S i5.res (lendAll S i5.pes args) := evCallFz0 fn5 rfl rfl args S
@[simp] theorem pes5 : i5.pes = [[0], [3], [0], [0], [0]] := rfl
@[simp] theorem body5 : i5.body = c5 := rfl
@[simp] theorem kind5 : i5.kind = 0 := rfl
@[simp] theorem tree5 : i5.tree = false := rfl
@[simp] theorem ntmps5 : i5.ntmps = 56 := rfl
@[simp] theorem results5 : i5.results = [(ResultVar.tmp 10)] := rfl
@[simp] theorem res5 : i5.res = [[0]] := rfl
theorem e5 (n : Int) (l : (List Rel)) (a : Int) (b : Int) (c : Int) (w_l0 : l.length ≤ 9223372036854775807) : evFL T 5 [.int .i64 n, .ts .imm 3 (l.map encRel), .int .i64 a, .int .i64 b, .int .i64 c] [] = some (.bool true, []) := by
  rw [evFL_at fn5 (by simp)]
  have le0 := szLRel_le l (1048576) (by omega)
  have es0 := e11 l (1048576) w_l0 (by omega) (by omega)
  by_cases hc0 : szLRel l (1048576) < 0
  · simp -implicitDefEqProofs [c5, r5_0, r5_1, r5_2, r5_3, r5_4, r5_5, r5_6, r5_7, r5_8, r5_9, r5_10, r5_11, r5_12, w_l0, call11, callz11, e11, call13, callz13, e13, call15, callz15, e15, call18, callz18, e18, call19, callz19, e19, -List.getElem?_map, -getElem?_pos, List.getElem?_cons_zero, map_get, -List.map_take, -List.map_drop, take_map, drop_map, upd_ne, frOf_set, frOf_get, frOf_getD, es0, hc0]
  obtain s_l0 := le0.2.2 (by omega) (by omega)
  have e_to_l := e13 l s_l0
  have e_eq_l := e15 l s_l0
  have e_spec := e18 n l a b c s_l0
  have e_impl := e19 n l a b c s_l0
  simp -implicitDefEqProofs [c5, r5_0, r5_1, r5_2, r5_3, r5_4, r5_5, r5_6, r5_7, r5_8, r5_9, r5_10, r5_11, r5_12, w_l0, call11, callz11, e11, call13, callz13, e13, call15, callz15, e15, call18, callz18, e18, call19, callz19, e19, -List.getElem?_map, -getElem?_pos, List.getElem?_cons_zero, map_get, -List.map_take, -List.map_drop, take_map, drop_map, upd_ne, frOf_set, frOf_get, frOf_getD, es0, e_to_l, e_eq_l, e_spec, e_impl, hc0]
section
variable {H : Type} {enc : TypeId × Value → H} {w : World} {base : Nat} {spare : Nat → Bool} {held : Bool}
theorem op3 : Opens enc Try.prog w base spare held 3 (fun x : Int => True) encInt := (opens_int Try.underlying3).map id (fun a _ => ⟨trivial, rfl⟩)
theorem op65 : Opens enc Try.prog w base spare held 65 (fun x : Rel => True) encRel := (opens_struct Try.underlying65 (by kernel_rfl) (seg_cons op3 (seg_cons op3 (seg_cons op3 (seg_nil))))).map (fun p => (⟨p.1, p.2.1, p.2.2.1⟩ : Rel)) (fun p hp => ⟨trivial, rfl⟩)
theorem op22 : Opens enc Try.prog w base spare held 22 (fun x : (List Rel) => wfLRel x) (encLRel .imm) := (opens_slice (e := 65) Try.underlying22 (of_decide_eq_true (by kernel_rfl)) op65).map id (fun a ga => ⟨ga.2, by rw [(by kernel_rfl : Try.prog.cellsOf 65 = 3)]; rfl⟩)
end
theorem own : ownKnob Try.prog.godebug = none := by kernel_rfl
theorem laid : laidOutB Try.prog = true := by kernel_rfl
set_option maxRecDepth 100000 in
theorem lifted5 (os : Os) (started : os.Started) (H : Type) (enc : TypeId × Value → H) : ReturnsInHanded {} Try.checked os 5 .any (Rows.fnExactMayTellSpec.pre6 enc Try.prog Try.f5 Rows.fnExactMayTellRow.domain false) (Rows.fnExactMayTellSpec.post enc Try.prog Try.f5 false true false false) := by
  refine returnsInHanded_of_change_sized (C := Try.checked) own started (by kernel_rfl) Try.func5 (ChangeSpec.witness6 (enc := enc) (C := Try.checked) false ⟨#[], #[.int .i64 0, .slice none 0 0, .int .i64 0, .int .i64 0, .int .i64 0], []⟩ 8 (by kernel_rfl) (by kernel_rfl) (by kernel_rfl) (by kernel_rfl)) ?_
  intro W base args ds gs before hval0 hW hcnd hsz0 _
  have hval : ∀ (j : Nat) t v, Try.f5.params[j]? = some t → args[j]? = some v → Value.okWide Try.prog W .any base t v := hval0
  have hW1 := hW
  obtain ⟨p, q, hA0, hV, rfl, hfz, hnd⟩ := hW
  have hA : DataW.TrodAll enc Try.prog W 0 (fun _ => true) true Try.f5.params.toList args.toList ds p := hA0
  rw [Try.params5] at hA hval
  obtain ⟨v0, vs0, d0, ds0, p0, q0, hargs, rfl, rfl, h0, r0⟩ := trodAll_cons hA
  obtain ⟨v1, vs1, d1, ds1, p1, q1, rfl, rfl, rfl, h1, r1⟩ := trodAll_cons r0
  obtain ⟨v2, vs2, d2, ds2, p2, q2, rfl, rfl, rfl, h2, r2⟩ := trodAll_cons r1
  obtain ⟨v3, vs3, d3, ds3, p3, q3, rfl, rfl, rfl, h3, r3⟩ := trodAll_cons r2
  obtain ⟨v4, vs4, d4, ds4, p4, q4, rfl, rfl, rfl, h4, r4⟩ := trodAll_cons r3
  obtain ⟨rfl, rfl, rfl⟩ := trodAll_nil r4
  obtain rfl : args = #[v0, v1, v2, v3, v4] := by cases args; simp_all
  obtain ⟨rfl, rfl⟩ := trodVars_none hV
  obtain ⟨b0, rfl⟩ := okWide_int Try.underlying3 (hval 0 3 v0 rfl rfl)
  obtain ⟨a0, c0, g0, ec0, k0⟩ := arg_cell1 op3 h0 rfl (fun a => ⟨_, rfl, rfl⟩)
  obtain rfl : _ = c0 := (List.cons.inj ec0).1
  obtain ⟨b1, b11, b21, rfl⟩ := okWide_slice Try.underlying22 (hval 1 22 v1 rfl rfl)
  obtain ⟨a1, c1, g1, ec1, k1⟩ := arg_cell1 op22 h1 rfl (fun a => ⟨_, rfl, rfl⟩)
  obtain rfl : _ = c1 := (List.cons.inj ec1).1
  obtain ⟨b2, rfl⟩ := okWide_int Try.underlying3 (hval 2 3 v2 rfl rfl)
  obtain ⟨a2, c2, g2, ec2, k2⟩ := arg_cell1 op3 h2 rfl (fun a => ⟨_, rfl, rfl⟩)
  obtain rfl : _ = c2 := (List.cons.inj ec2).1
  obtain ⟨b3, rfl⟩ := okWide_int Try.underlying3 (hval 3 3 v3 rfl rfl)
  obtain ⟨a3, c3, g3, ec3, k3⟩ := arg_cell1 op3 h3 rfl (fun a => ⟨_, rfl, rfl⟩)
  obtain rfl : _ = c3 := (List.cons.inj ec3).1
  obtain ⟨b4, rfl⟩ := okWide_int Try.underlying3 (hval 4 3 v4 rfl rfl)
  obtain ⟨a4, c4, g4, ec4, k4⟩ := arg_cell1 op3 h4 rfl (fun a => ⟨_, rfl, rfl⟩)
  obtain rfl : _ = c4 := (List.cons.inj ec4).1
  have hl : ∀ x ∈ p0 ++ p1 ++ p2 ++ p3 ++ p4, x.block < W.heap.size := fun x hx => hW1.lt x (by simpa using hx)
  refine (row_calls tab (us := [_, _, _, _, _]) (e5 a0 a1 a2 a3 a4 g1) rfl (fun i hi => ?_)).mono fun e W1 ⟨he, bel⟩ => ?_
  · match i, hi with
    | 0, _ => exact k0
    | 1, _ => exact k1
    | 2, _ => exact k2
    | 3, _ => exact k3
    | 4, _ => exact k4
    | n + 5, h => exact absurd h (by simp)
  subst he
  exact ⟨_, rfl, _, _, _, [], _, [], hW1, trodAll_mk1 (shut_bool Try.underlying4 _), (trodAll_cons_mk (Below.trod laid (by kernel_rfl) (of_decide_eq_true (by kernel_rfl)) h0 bel (fun x hx => hl x (by simp [hx]))) (trodAll_cons_mk (Below.trod laid (by kernel_rfl) (of_decide_eq_true (by kernel_rfl)) h1 bel (fun x hx => hl x (by simp [hx]))) (trodAll_cons_mk (Below.trod laid (by kernel_rfl) (of_decide_eq_true (by kernel_rfl)) h2 bel (fun x hx => hl x (by simp [hx]))) (trodAll_cons_mk (Below.trod laid (by kernel_rfl) (of_decide_eq_true (by kernel_rfl)) h3 bel (fun x hx => hl x (by simp [hx]))) (trodAll_cons_mk (Below.trod laid (by kernel_rfl) (of_decide_eq_true (by kernel_rfl)) h4 bel (fun x hx => hl x (by simp [hx]))) trodAll_mk0))))), rfl, bel.frame _, fun h => by cases h⟩
theorem over5 : Rows.fnExactMayTellRow.holds Try.pinned (OpenSpec.ofChange Rows.fnExactMayTellSpec) :=
  OpenClaim.holds_of_wide 5 Try.f5 rfl rfl rfl rfl rfl rfl rfl ⟨rfl, rfl, rfl, rfl, rfl⟩ rfl rfl rfl rfl rfl (by kernel_rfl) Try.func5 (by kernel_rfl)
    (of_decide_eq_true (by kernel_rfl)) (by unfold Func.isWrapper; first | (rw [if_pos (by decide +kernel)]; kernel_rfl) | (rw [if_neg (by decide +kernel)]; exact ⟨rfl, rfl⟩))
    (fun os started H enc _ => lifted5 os started H enc)
theorem fnExactMayTell_holds : Rows.FnExactMayTellSaid := over5
#print axioms fnExactMayTell_holds
end Go.Proofs.Ytichbkallidkcaa
