/- What functions of the program answer, and that the law answers true at every input; no condition -/
import Derived.Test.YthidbgihjhkjaaaRows
import Derived.Test.YthidbgihjhkjaaaGoodRouteEqGoodRoute
import Derived.Test.YthidbgihjhkjaaaPiC
import Derived.WalkKit
import Derived.OpenShut
import Derived.ShutString
import Derived.ChangeOld
import Derived.Below
import Derived.SizedLaws
set_option linter.all false
/- Functions of the program, by equations. -/
namespace Go.Proofs.Ythidbgihjhkjaaa
open Go Go.Proofs Go.Pi Go.ChangeShapes Go.WideShapes Go.ChangeAt Go.RowKit Go.Pi.Ythidbgihjhkjaaa.GoodRoute
set_option maxRecDepth 100000
set_option linter.unusedSimpArgs false
set_option linter.unusedVariables false
-- laws.FnExactGoodRoute
@[simp] theorem call3 {m : Nat} (args : List AV) (S : St) : evCall T m (evFL T) 3 args S = lendC (evFL T 3) S (lendAll S i3.pes args) := evCall0 fn3 rfl rfl args S
@[simp] theorem callz3 (args : List AV) (S : St) : evCallFz T (evFL T) 3 args S = lendZ (evFL T 3) S i3.res (lendAll S i3.pes args) := evCallFz0 fn3 rfl rfl args S
@[simp] theorem pes3 : i3.pes = [[0, 0, 0, 1, 0, 0, 0, 1]] := rfl
@[simp] theorem body3 : i3.body = c3 := rfl
@[simp] theorem kind3 : i3.kind = 0 := rfl
@[simp] theorem tree3 : i3.tree = false := rfl
@[simp] theorem ntmps3 : i3.ntmps = 27 := rfl
@[simp] theorem results3 : i3.results = [(ResultVar.tmp 2)] := rfl
@[simp] theorem res3 : i3.res = [[0]] := rfl
theorem e3 (a_prefix__addr : Int) (a_prefix__len : Int) (a_attrs_origin : Int) (a_attrs_path : (List Int)) (a_attrs_next : Int) (a_attrs_med : Int) (a_attrs_pref : Int) (a_attrs_comms : (List Int)) (w_a0 : a_attrs_path.length ≤ 9223372036854775807) (w_a1 : a_attrs_comms.length ≤ 9223372036854775807) : evFL T 3 [.agg [.int .i64 a_prefix__addr, .int .i64 a_prefix__len, .int .i64 a_attrs_origin, .ts .imm 1 (a_attrs_path.map encInt), .int .i64 a_attrs_next, .int .i64 a_attrs_med, .int .i64 a_attrs_pref, .ts .imm 1 (a_attrs_comms.map encInt)]] [] = some (.bool true, []) := by
  rw [evFL_at fn3 (by simp)]
  have le0 := szRoute_le (⟨⟨a_prefix__addr, a_prefix__len⟩, ⟨a_attrs_origin, a_attrs_path, a_attrs_next, a_attrs_med, a_attrs_pref, a_attrs_comms⟩⟩ : Route) (1048576) (by omega)
  have es0 := e8 a_prefix__addr a_prefix__len a_attrs_origin a_attrs_path a_attrs_next a_attrs_med a_attrs_pref a_attrs_comms (1048576) w_a0 w_a1 (by omega) (by omega)
  by_cases hc0 : szRoute (⟨⟨a_prefix__addr, a_prefix__len⟩, ⟨a_attrs_origin, a_attrs_path, a_attrs_next, a_attrs_med, a_attrs_pref, a_attrs_comms⟩⟩ : Route) (1048576) < 0
  · simp -implicitDefEqProofs [c3, r3_0, r3_1, r3_2, r3_3, r3_4, r3_5, r3_6, r3_7, r3_8, r3_9, r3_10, r3_11, r3_12, w_a0, w_a1, call8, callz8, e8, call9, callz9, e9, call10, callz10, e10, call11, callz11, e11, call12, callz12, e12, -List.getElem?_map, -getElem?_pos, -Int.pred_toNat, List.getElem?_cons_zero, map_get, -List.map_take, -List.map_drop, take_map, drop_map, upd_ne, frOf_set, frOf_get, frOf_getD, es0, hc0]
  obtain ⟨s_a0, s_a1⟩ := le0.2.2 (by omega) (by omega)
  try dsimp only at s_a0 s_a1
  have e_to_a := e10 a_prefix__addr a_prefix__len a_attrs_origin a_attrs_path a_attrs_next a_attrs_med a_attrs_pref a_attrs_comms s_a0 s_a1
  have e_eq_a := e12 a_prefix__addr a_prefix__len a_attrs_origin a_attrs_path a_attrs_next a_attrs_med a_attrs_pref a_attrs_comms s_a0 s_a1
  have e_spec := e9 a_prefix__addr a_prefix__len a_attrs_origin a_attrs_path a_attrs_next a_attrs_med a_attrs_pref a_attrs_comms s_a0 s_a1
  have e_impl := e11 a_prefix__addr a_prefix__len a_attrs_origin a_attrs_path a_attrs_next a_attrs_med a_attrs_pref a_attrs_comms s_a0 s_a1
  simp -implicitDefEqProofs [c3, r3_0, r3_1, r3_2, r3_3, r3_4, r3_5, r3_6, r3_7, r3_8, r3_9, r3_10, r3_11, r3_12, w_a0, w_a1, call8, callz8, e8, call9, callz9, e9, call10, callz10, e10, call11, callz11, e11, call12, callz12, e12, -List.getElem?_map, -getElem?_pos, -Int.pred_toNat, List.getElem?_cons_zero, map_get, -List.map_take, -List.map_drop, take_map, drop_map, upd_ne, frOf_set, frOf_get, frOf_getD, es0, e_to_a, e_eq_a, e_spec, e_impl, hc0, s_a0, s_a1]
section
variable {H : Type} {enc : TypeId × Value → H} {w : World} {base : Nat} {spare : Nat → Bool} {held : Bool}
theorem op3 : Opens enc Try.prog w base spare held 3 (fun x : Int => True) encInt := (opens_int Try.underlying3).map id (fun a _ => ⟨trivial, rfl⟩)
theorem op23 : Opens enc Try.prog w base spare held 23 (fun x : Prefix => True) encPrefix := (opens_struct Try.underlying23 (by kernel_rfl) (seg_cons op3 (seg_cons op3 (seg_nil)))).map (fun p => (⟨p.1, p.2.1⟩ : Prefix)) (fun p hp => ⟨trivial, rfl⟩)
theorem op24 : Opens enc Try.prog w base spare held 24 (fun x : (List Int) => wfLInt x) (encLInt .imm) := (opens_slice (e := 3) Try.underlying24 (of_decide_eq_true (by kernel_rfl)) op3).map id (fun a ga => ⟨ga.2, by rw [(by kernel_rfl : Try.prog.cellsOf 3 = 1)]; rfl⟩)
theorem op26 : Opens enc Try.prog w base spare held 26 (fun x : Attrs => wfAttrs x) (encAttrs .imm) := (opens_struct Try.underlying26 (by kernel_rfl) (seg_cons op3 (seg_cons op24 (seg_cons op3 (seg_cons op3 (seg_cons op3 (seg_cons op24 (seg_nil)))))))).map (fun p => (⟨p.1, p.2.1, p.2.2.1, p.2.2.2.1, p.2.2.2.2.1, p.2.2.2.2.2.1⟩ : Attrs)) (fun p hp => ⟨by obtain ⟨_, h1_0, _, _, _, h5_0, _⟩ := hp; unfold wfAttrs; exact ⟨h1_0, h5_0⟩, rfl⟩)
theorem op28 : Opens enc Try.prog w base spare held 28 (fun x : Route => wfRoute x) (encRoute .imm) := (opens_struct Try.underlying28 (by kernel_rfl) (seg_cons op23 (seg_cons op26 (seg_nil)))).map (fun p => (⟨p.1, p.2.1⟩ : Route)) (fun p hp => ⟨by obtain ⟨_, ⟨h1_0, h1_1⟩, _⟩ := hp; unfold wfRoute; exact ⟨h1_0, h1_1⟩, rfl⟩)
end
theorem own : ownKnob Try.prog.godebug = none := by kernel_rfl
theorem laid : laidOutB Try.prog = true := by kernel_rfl
set_option maxRecDepth 100000 in
theorem lifted3 (os : Os) (started : os.Started) (H : Type) (enc : TypeId × Value → H) : ReturnsInHanded {} Try.checked os 3 .any (Rows.fnExactGoodRouteSpec.pre6 enc Try.prog Try.f3 Rows.fnExactGoodRouteRow.domain false) (Rows.fnExactGoodRouteSpec.post enc Try.prog Try.f3 false true false false) := by
  refine returnsInHanded_of_change_sized (C := Try.checked) own started (by kernel_rfl) Try.func3 (ChangeSpec.witness6 (enc := enc) (C := Try.checked) false ⟨#[], #[.agg #[.int .i64 0, .int .i64 0, .int .i64 0, .slice none 0 0, .int .i64 0, .int .i64 0, .int .i64 0, .slice none 0 0]], []⟩ 8 (by kernel_rfl) (by kernel_rfl) (by kernel_rfl) (by kernel_rfl)) ?_
  intro W base args ds gs before hval0 hW hcnd hsz0 _
  have hval : ∀ (j : Nat) t v, Try.f3.params[j]? = some t → args[j]? = some v → Value.okWide Try.prog W .any base t v := hval0
  have hW1 := hW
  obtain ⟨p, q, hA0, hV, rfl, hfz, hnd⟩ := hW
  have hA : DataW.TrodAll enc Try.prog W 0 (fun _ => true) true Try.f3.params.toList args.toList ds p := hA0
  rw [Try.params3] at hA hval
  obtain ⟨v0, vs0, d0, ds0, p0, q0, hargs, rfl, rfl, h0, r0⟩ := trodAll_cons hA
  obtain ⟨rfl, rfl, rfl⟩ := trodAll_nil r0
  obtain rfl : args = #[v0] := by cases args; simp_all
  obtain ⟨rfl, rfl⟩ := trodVars_none hV
  obtain ⟨c0, rfl, _⟩ := okWide_struct Try.underlying28 (hval 0 28 v0 rfl rfl)
  obtain ⟨a0, g0, k0⟩ := arg_agg op28 h0 (fun a => by simp [encRoute, immTop])
  obtain ⟨g0_0, g0_1⟩ := g0
  have hl : ∀ x ∈ p0, x.block < W.heap.size := fun x hx => hW1.lt x (by simpa using hx)
  refine (row_calls tab (us := [.agg c0]) (e3 a0.prefix_.addr a0.prefix_.len a0.attrs.origin a0.attrs.path a0.attrs.next a0.attrs.med a0.attrs.pref a0.attrs.comms g0_0 g0_1) rfl (fun i hi => ?_)).mono fun e W1 ⟨he, bel⟩ => ?_
  · match i, hi with
    | 0, _ => exact k0
    | n + 1, h => exact absurd h (by simp)
  subst he
  exact ⟨_, rfl, _, _, _, [], _, [], hW1, trodAll_mk1 (shut_bool Try.underlying4 _), (trodAll_cons_mk (Below.trod laid (by kernel_rfl) (of_decide_eq_true (by kernel_rfl)) h0 bel (fun x hx => hl x (by simp [hx]))) trodAll_mk0), rfl, bel.frame _, fun h => by cases h⟩
theorem over3 : Rows.fnExactGoodRouteRow.holds Try.pinned (OpenSpec.ofChange Rows.fnExactGoodRouteSpec) :=
  OpenClaim.holds_of_wide 3 Try.f3 rfl rfl rfl rfl rfl rfl rfl ⟨rfl, rfl, rfl, rfl, rfl⟩ rfl rfl rfl rfl rfl (by kernel_rfl) Try.func3 (by kernel_rfl)
    (of_decide_eq_true (by kernel_rfl)) (by unfold Func.isWrapper; first | (rw [if_pos (by decide +kernel)]; kernel_rfl) | (rw [if_neg (by decide +kernel)]; exact ⟨rfl, rfl⟩))
    (fun os started H enc _ => lifted3 os started H enc)
theorem fnExactGoodRoute_holds : Rows.FnExactGoodRouteSaid := over3
#print axioms fnExactGoodRoute_holds
end Go.Proofs.Ythidbgihjhkjaaa
