/- What functions of the program answer, and that the law answers true at every input; no condition -/
import Derived.Test.YtbohlpligkfkiaaGoodAlgebraTabGoodAlgebra
import Derived.Test.YtbohlpligkfkiaaPiC
set_option linter.all false
/- Functions of the program, by equations. -/
namespace Go.Pi.Ytbohlpligkfkiaa.GoodAlgebra
open Go Go.Proofs Go.Pi 
set_option maxRecDepth 100000
set_option linter.unusedSimpArgs false
set_option linter.unusedVariables false
def encInt (x : Int) : List AV := [.int .i64 x]
@[simp] theorem own_encInt (x : Int) : ownOnlyL (encInt x) = true := by simp [encInt, ownOnlyL, ownOnly]
@[simp] theorem setQL_encInt (q : Ql) (x : Int) : setQL q (encInt x) = encInt x := rfl
def encLInt (q : Ql) (x : (List Int)) : List AV := [.ts q 1 (x.map encInt)]
@[simp] theorem own_encLInt (x : (List Int)) : ownOnlyL (encLInt .own x) = true := by simp [encLInt, ownOnlyL, ownOnly]
@[simp] theorem setQL_encLInt (q q1 : Ql) (x : (List Int)) : setQL q (encLInt q1 x) = encLInt q x := by simp [encLInt, Function.comp_def]
def smLInt (x : (List Int)) : Prop := (x.length ≤ 1048576)
def smsLInt (x : List (List Int)) : Prop := ∀ y ∈ x, smLInt y
def wfLInt (x : (List Int)) : Prop := (x.length ≤ 9223372036854775807)
def wfsLInt (x : List (List Int)) : Prop := ∀ y ∈ x, wfLInt y
def szLInt (x : (List Int)) (l : Int) : Int := szL x.length (l)
theorem szLInt_le (x : (List Int)) (l : Int) (h : 0 ≤ l) : szLInt x l ≤ l ∧ -1 ≤ szLInt x l ∧ (0 ≤ szLInt x l → l ≤ 1048576 → smLInt x) := szL_le x.length l h
def encLLInt (q : Ql) (x : (List (List Int))) : List AV := [.ts q 1 (x.map (encLInt q))]
@[simp] theorem own_encLLInt (x : (List (List Int))) : ownOnlyL (encLLInt .own x) = true := by simp [encLLInt, ownOnlyL, ownOnly]
@[simp] theorem setQL_encLLInt (q q1 : Ql) (x : (List (List Int))) : setQL q (encLLInt q1 x) = encLLInt q x := by simp [encLLInt, Function.comp_def]
def smLLInt (x : (List (List Int))) : Prop := (x.length ≤ 1048576) ∧ (smsLInt x)
def smsLLInt (x : List (List (List Int))) : Prop := ∀ y ∈ x, smLLInt y
def wfLLInt (x : (List (List Int))) : Prop := (x.length ≤ 9223372036854775807) ∧ (wfsLInt x)
def wfsLLInt (x : List (List (List Int))) : Prop := ∀ y ∈ x, wfLLInt y
def szLLInt (x : (List (List Int))) (l : Int) : Int := szS szLInt x (l)
theorem szLLInt_le (x : (List (List Int))) (l : Int) (h : 0 ≤ l) : szLLInt x l ≤ l ∧ -1 ≤ szLLInt x l ∧ (0 ≤ szLLInt x l → l ≤ 1048576 → smLLInt x) := szS_le (fun y _ l h => szLInt_le y l h) l h
structure Algebra where
  weights : Int
  apply : (List (List Int))
  deriving Inhabited
@[simp] theorem Algebra.eta (x : Algebra) : (⟨x.weights, x.apply⟩ : Algebra) = x := rfl
def encAlgebra (q : Ql) (x : Algebra) : List AV := [.int .i64 x.weights, .ts q 1 (x.apply.map (encLInt q))]
@[simp] theorem own_encAlgebra (x : Algebra) : ownOnlyL (encAlgebra .own x) = true := by simp [encAlgebra, ownOnlyL, ownOnly]
@[simp] theorem setQL_encAlgebra (q q1 : Ql) (x : Algebra) : setQL q (encAlgebra q1 x) = encAlgebra q x := by simp [encAlgebra, Function.comp_def]
def smAlgebra (x : Algebra) : Prop := (x.apply.length ≤ 1048576) ∧ (smsLInt x.apply)
def smsAlgebra (x : List Algebra) : Prop := ∀ y ∈ x, smAlgebra y
def wfAlgebra (x : Algebra) : Prop := (x.apply.length ≤ 9223372036854775807) ∧ (wfsLInt x.apply)
def wfsAlgebra (x : List Algebra) : Prop := ∀ y ∈ x, wfAlgebra y
def szAlgebra (x : Algebra) (l : Int) : Int := szThen (szLLInt x.apply l) fun l => l
theorem szAlgebra_le (x : Algebra) (l : Int) (h : 0 ≤ l) : szAlgebra x l ≤ l ∧ -1 ≤ szAlgebra x l ∧ (0 ≤ szAlgebra x l → l ≤ 1048576 → smAlgebra x) := by
  simp only [szAlgebra, szThen]
  have h0 := szLLInt_le x.apply (l) (by omega)
  by_cases hc0 : szLLInt x.apply (l) < 0
  · simp only [hc0, if_true, if_false]; exact ⟨by omega, by omega, fun h => by omega⟩
  simp only [hc0, if_false]
  refine ⟨by omega, by omega, fun h9 h8 => ?_⟩
  have k0 := h0.2.2 (by omega) (by omega)
  simp only [smAlgebra, smLLInt] at *
  refine ⟨?_, ?_⟩ <;> first | omega | assumption | simp_all
-- laws.szIntS
@[simp] theorem call76 {m : Nat} (args : List AV) (S : St) : evCall T m (evFL T) 76 args S = lendC (evFL T 76) S (lendAll S i76.pes args) := evCall0 fn76 rfl rfl args S
@[simp] theorem callz76 (args : List AV) (S : St) : evCallFz T (evFL T) 76 args S = lendZ (evFL T 76) S i76.res (lendAll S i76.pes args) := evCallFz0 fn76 rfl rfl args S
@[simp] theorem pes76 : i76.pes = [[1], [0]] := rfl
@[simp] theorem body76 : i76.body = c76 := rfl
@[simp] theorem kind76 : i76.kind = 0 := rfl
@[simp] theorem tree76 : i76.tree = false := rfl
@[simp] theorem ntmps76 : i76.ntmps = 12 := rfl
@[simp] theorem results76 : i76.results = [(ResultVar.tmp 4)] := rfl
@[simp] theorem res76 : i76.res = [[0]] := rfl
theorem e76 (a : (List Int)) (l : Int) (hw0 : a.length ≤ 9223372036854775807) (hl0 : 0 ≤ l) (hl1 : l ≤ 1048576) : evFL T 76 [.ts .imm 1 (a.map encInt), .int .i64 l] [] = some (.int .i64 (szLInt a l), []) := by
  rw [evFL_at fn76 (by simp)]
  have hn : IntKind.i64.wrap (l - (a.length : Int)) = l - (a.length : Int) := wrap64 (by omega) (by omega)
  by_cases hc0 : l - (a.length : Int) < 0
  all_goals simp -implicitDefEqProofs [c76, r76_0, r76_1, r76_2, r76_3, r76_4, hw0, hl0, hl1, -List.getElem?_map, -getElem?_pos, List.getElem?_cons_zero, map_get, -List.map_take, -List.map_drop, take_map, drop_map, upd_ne, frOf_set, frOf_get, frOf_getD, hn, szL, szLInt, hc0]
-- laws.szIntSS
@[simp] theorem call44 {m : Nat} (args : List AV) (S : St) : evCall T m (evFL T) 44 args S = lendC (evFL T 44) S (lendAll S i44.pes args) := evCall0 fn44 rfl rfl args S
@[simp] theorem callz44 (args : List AV) (S : St) : evCallFz T (evFL T) 44 args S = lendZ (evFL T 44) S i44.res (lendAll S i44.pes args) := evCallFz0 fn44 rfl rfl args S
@[simp] theorem pes44 : i44.pes = [[1], [0]] := rfl
@[simp] theorem body44 : i44.body = c44 := rfl
@[simp] theorem kind44 : i44.kind = 0 := rfl
@[simp] theorem tree44 : i44.tree = false := rfl
@[simp] theorem ntmps44 : i44.ntmps = 27 := rfl
@[simp] theorem results44 : i44.results = [(ResultVar.tmp 4)] := rfl
@[simp] theorem res44 : i44.res = [[0]] := rfl
def I44_0 (a : (List (List Int))) (l : Int)  (i : Nat) (fr : Fr) (S : St) : Prop := ∃ f : Nat → AV, ∃ l1 : Int, fr = frOf 27 f ∧ f 0 = .ts .imm 1 (a.map (encLInt .imm)) ∧ f 1 = .int .i64 l1 ∧ f 5 = .int .i64 i ∧ S = [] ∧ 0 ≤ l1 ∧ l1 ≤ 1048576 ∧ szGo szLInt (a.drop i) l1 = szGo szLInt a (l - (a.length : Int))
def R44_0 (a : (List (List Int))) (l : Int)  (r : Option (Ex × Fr × St)) : Prop := (∃ f : Nat → AV, r = some (.ret, frOf 27 f, []) ∧ f 4 = .int .i64 (-1) ∧ szGo szLInt a (l - (a.length : Int)) = -1) ∨ (∃ f : Nat → AV, ∃ l2 : Int, r = some (.exit 0, frOf 27 f, []) ∧ f 1 = .int .i64 l2 ∧ szGo szLInt a (l - (a.length : Int)) = l2)
theorem L44_0 (a : (List (List Int))) (l : Int) (hw0 : a.length ≤ 9223372036854775807) (hw1 : wfsLInt a) (hl0 : 0 ≤ l) (hl1 : l ≤ 1048576)   : ∀ i fr S, i ≤ a.length → I44_0 a l  i fr S → R44_0 a l  (evCL T 0 (.loop l44_0) fr S) := by
  refine loopQ _ _ _ ?_ ?_
  · rintro i fr S hi ⟨f, l1, rfl, t0, t1, t5, rfl, hf⟩
    have hn : IntKind.i64.wrap (l - (a.length : Int)) = l - (a.length : Int) := wrap64 (by omega) (by omega)
    have hwi : IntKind.i64.wrap ((i : Int) + 1) = (i : Int) + 1 := wrap64 (by omega) (by omega)
    have hi9 : True := trivial
    obtain ⟨hk0, hk1, hg⟩ := hf
    rw [drop_nth hi] at hg
    have hy := hw1 (nth a i) (nth_mem hi)
    simp only [wfLInt] at hy
    have ef := e76 ((nth a i)) l1 hy hk0 hk1
    have hle := szLInt_le (nth a i) l1 hk0
    by_cases hc : szLInt (nth a i) l1 < 0
    · simp -implicitDefEqProofs [r44_0, r44_1, r44_2, r44_3, r44_4, r44_5, r44_6, r44_7, r44_8, r44_9, r44_10, l44_0, hw0, hw1, hl0, hl1, call76, callz76, e76, -List.getElem?_map, -getElem?_pos, List.getElem?_cons_zero, map_get, -List.map_take, -List.map_drop, take_map, drop_map, upd_ne, frOf_set, frOf_get, frOf_getD, hn, encLInt, szLLInt, t0, t1, t5, hi, hwi, hk0, hk1, hc, ef, hy]
      refine .ret _ _ (Or.inl ⟨_, rfl, (by first | rfl | assumption | simp [upd, *]), ?_⟩); simp [szGo, hc] at hg; exact hg.symm
    · simp -implicitDefEqProofs [r44_0, r44_1, r44_2, r44_3, r44_4, r44_5, r44_6, r44_7, r44_8, r44_9, r44_10, l44_0, hw0, hw1, hl0, hl1, call76, callz76, e76, -List.getElem?_map, -getElem?_pos, List.getElem?_cons_zero, map_get, -List.map_take, -List.map_drop, take_map, drop_map, upd_ne, frOf_set, frOf_get, frOf_getD, hn, encLInt, szLLInt, t0, t1, t5, hi, hwi, hk0, hk1, hc, ef, hy]
      refine .go _ _ ⟨_, _, rfl, (by first | rfl | assumption | simp [upd, *]), (by first | rfl | assumption | simp [upd, *]), (by first | rfl | assumption | simp [upd, *]), rfl, ?_⟩; simp only [szGo, hc, if_false] at hg; exact ⟨by omega, by omega, hg⟩
  · rintro fr S ⟨f, l1, rfl, t0, t1, t5, rfl, hf⟩
    have hn : IntKind.i64.wrap (l - (a.length : Int)) = l - (a.length : Int) := wrap64 (by omega) (by omega)
    simp -implicitDefEqProofs [r44_0, r44_1, r44_2, r44_3, r44_4, r44_5, r44_6, r44_7, r44_8, r44_9, r44_10, l44_0, hw0, hw1, hl0, hl1, call76, callz76, e76, -List.getElem?_map, -getElem?_pos, List.getElem?_cons_zero, map_get, -List.map_take, -List.map_drop, take_map, drop_map, upd_ne, frOf_set, frOf_get, frOf_getD, hn, encLInt, szLLInt, t0, t1, t5]
    refine .exit _ _ _ (Or.inr ⟨_, _, rfl, (by first | rfl | assumption | simp [upd, *]), ?_⟩)
    simp [szGo] at hf; exact hf.2.2.symm
theorem e44 (a : (List (List Int))) (l : Int) (hw0 : a.length ≤ 9223372036854775807) (hw1 : wfsLInt a) (hl0 : 0 ≤ l) (hl1 : l ≤ 1048576) : evFL T 44 [.ts .imm 1 (a.map (encLInt .imm)), .int .i64 l] [] = some (.int .i64 (szLLInt a l), []) := by
  rw [evFL_at fn44 (by simp)]
  have hn : IntKind.i64.wrap (l - (a.length : Int)) = l - (a.length : Int) := wrap64 (by omega) (by omega)
  by_cases hc : l - (a.length : Int) < 0
  · simp -implicitDefEqProofs [c44, r44_0, r44_1, r44_2, r44_3, r44_4, r44_5, r44_6, r44_7, r44_8, r44_9, r44_10, hw0, hw1, hl0, hl1, call76, callz76, e76, -List.getElem?_map, -getElem?_pos, List.getElem?_cons_zero, map_get, -List.map_take, -List.map_drop, take_map, drop_map, upd_ne, frOf_set, frOf_get, frOf_getD, hn, encLInt, szLLInt, hc, szS]
  simp -implicitDefEqProofs [c44, r44_0, r44_1, r44_2, r44_3, r44_4, r44_5, r44_6, r44_7, r44_8, r44_9, r44_10, hw0, hw1, hl0, hl1, call76, callz76, e76, -List.getElem?_map, -getElem?_pos, List.getElem?_cons_zero, map_get, -List.map_take, -List.map_drop, take_map, drop_map, upd_ne, frOf_set, frOf_get, frOf_getD, hn, encLInt, szLLInt, hc]
  generalize hr : evCL T 0 (.loop l44_0) _ _ = r
  have h : R44_0 a l  r := by rw [← hr]; exact L44_0 a l hw0 hw1 hl0 hl1  (0) _ _ (by omega) ⟨_, _, rfl, (by simp [upd, *]), (by simp [upd, *]), (by simp [upd, *]), rfl, ⟨by omega, by omega, rfl⟩⟩
  clear hr
  rcases h with h | h
  · obtain ⟨f0, rfl, u0_4, hf0⟩ := h
    simp -implicitDefEqProofs [r44_0, r44_1, r44_2, r44_3, r44_4, r44_5, r44_6, r44_7, r44_8, r44_9, r44_10, hw0, hw1, hl0, hl1, call76, callz76, e76, -List.getElem?_map, -getElem?_pos, List.getElem?_cons_zero, map_get, -List.map_take, -List.map_drop, take_map, drop_map, upd_ne, frOf_set, frOf_get, frOf_getD, hn, encLInt, szLLInt, u0_4, hf0, hc, szS]
  obtain ⟨f0, l2, rfl, u0_1, hf0⟩ := h
  simp -implicitDefEqProofs [r44_0, r44_1, r44_2, r44_3, r44_4, r44_5, r44_6, r44_7, r44_8, r44_9, r44_10, hw0, hw1, hl0, hl1, call76, callz76, e76, -List.getElem?_map, -getElem?_pos, List.getElem?_cons_zero, map_get, -List.map_take, -List.map_drop, take_map, drop_map, upd_ne, frOf_set, frOf_get, frOf_getD, hn, encLInt, szLLInt, u0_1, hf0, hc, szS]
-- laws.szAlgebra
@[simp] theorem call12 {m : Nat} (args : List AV) (S : St) : evCall T m (evFL T) 12 args S = lendC (evFL T 12) S (lendAll S i12.pes args) := evCall0 fn12 rfl rfl args S
@[simp] theorem callz12 (args : List AV) (S : St) : evCallFz T (evFL T) 12 args S = lendZ (evFL T 12) S i12.res (lendAll S i12.pes args) := evCallFz0 fn12 rfl rfl args S
@[simp] theorem pes12 : i12.pes = [[0, 1], [0]] := rfl
@[simp] theorem body12 : i12.body = c12 := rfl
@[simp] theorem kind12 : i12.kind = 0 := rfl
@[simp] theorem tree12 : i12.tree = false := rfl
@[simp] theorem ntmps12 : i12.ntmps = 12 := rfl
@[simp] theorem results12 : i12.results = [(ResultVar.tmp 4)] := rfl
@[simp] theorem res12 : i12.res = [[0]] := rfl
theorem e12 (a_weights : Int) (a_apply : (List (List Int))) (l : Int) (hw0 : a_apply.length ≤ 9223372036854775807) (hw1 : wfsLInt a_apply) (hl0 : 0 ≤ l) (hl1 : l ≤ 1048576) : evFL T 12 [.agg [.int .i64 a_weights, .ts .imm 1 (a_apply.map (encLInt .imm))], .int .i64 l] [] = some (.int .i64 (szAlgebra (⟨a_weights, a_apply⟩ : Algebra) l), []) := by
  rw [evFL_at fn12 (by simp)]
  have hle0 := szLLInt_le (a_apply : (List (List Int))) (l) (by omega)
  have ef0 := e44 a_apply (l) hw0 hw1 (by omega) (by omega)
  by_cases hc0 : szLLInt (a_apply : (List (List Int))) (l) < 0
  · simp -implicitDefEqProofs [c12, r12_0, r12_1, r12_2, r12_3, r12_4, hw0, hw1, hl0, hl1, call44, callz44, e44, -List.getElem?_map, -getElem?_pos, List.getElem?_cons_zero, map_get, -List.map_take, -List.map_drop, take_map, drop_map, upd_ne, frOf_set, frOf_get, frOf_getD, szAlgebra, szThen, ef0, hc0]
  have hz0 : 0 ≤ szLLInt (a_apply : (List (List Int))) (l) := by omega
  have hu0 : szLLInt (a_apply : (List (List Int))) (l) ≤ 1048576 := by omega
  simp -implicitDefEqProofs [c12, r12_0, r12_1, r12_2, r12_3, r12_4, hw0, hw1, hl0, hl1, call44, callz44, e44, -List.getElem?_map, -getElem?_pos, List.getElem?_cons_zero, map_get, -List.map_take, -List.map_drop, take_map, drop_map, upd_ne, frOf_set, frOf_get, frOf_getD, szAlgebra, szThen, hc0, hz0, hu0, ef0]
-- spec.l1In
@[simp] theorem call45 {m : Nat} (args : List AV) (S : St) : evCall T m (evFL T) 45 args S = lendC (evFL T 45) S (lendAll S i45.pes args) := evCall0 fn45 rfl rfl args S
@[simp] theorem callz45 (args : List AV) (S : St) : evCallFz T (evFL T) 45 args S = lendZ (evFL T 45) S i45.res (lendAll S i45.pes args) := evCallFz0 fn45 rfl rfl args S
@[simp] theorem pes45 : i45.pes = [[0], [0], [0]] := rfl
@[simp] theorem body45 : i45.body = c45 := rfl
@[simp] theorem kind45 : i45.kind = 0 := rfl
@[simp] theorem tree45 : i45.tree = false := rfl
@[simp] theorem ntmps45 : i45.ntmps = 15 := rfl
@[simp] theorem results45 : i45.results = [(ResultVar.tmp 6)] := rfl
@[simp] theorem res45 : i45.res = [[0]] := rfl
theorem e45 (a : Int) (b : Int) (c : Int)  : evFL T 45 [.int .i64 a, .int .i64 b, .int .i64 c] [] = some (.bool (inR a b c), []) := by
  rw [evFL_at fn45 (by simp)]
  by_cases hc0 : b ≤ a
  all_goals simp -implicitDefEqProofs [c45, r45_0, r45_1, -List.getElem?_map, -getElem?_pos, List.getElem?_cons_zero, map_get, -List.map_take, -List.map_drop, take_map, drop_map, upd_ne, frOf_set, frOf_get, frOf_getD, inR, hc0]
def rowB (n : Int) (l : List Int) : Bool := (l.all fun x => inR x 0 (n - 1)) && decide ((l.length : Int) = n) && decide (nth l (n - 1).toNat = n - 1)
def algB (x : Algebra) : Bool := inR x.weights 2 12 && inR (x.apply.length : Int) 1 4 && x.apply.all (rowB x.weights)
-- spec.l9Apply
@[simp] theorem call46 {m : Nat} (args : List AV) (S : St) : evCall T m (evFL T) 46 args S = lendC (evFL T 46) S (lendAll S i46.pes args) := evCall0 fn46 rfl rfl args S
@[simp] theorem callz46 (args : List AV) (S : St) : evCallFz T (evFL T) 46 args S = lendZ (evFL T 46) S i46.res (lendAll S i46.pes args) := evCallFz0 fn46 rfl rfl args S
@[simp] theorem pes46 : i46.pes = [[1], [0]] := rfl
@[simp] theorem body46 : i46.body = c46 := rfl
@[simp] theorem kind46 : i46.kind = 0 := rfl
@[simp] theorem tree46 : i46.tree = false := rfl
@[simp] theorem ntmps46 : i46.ntmps = 35 := rfl
@[simp] theorem results46 : i46.results = [(ResultVar.tmp 4)] := rfl
@[simp] theorem res46 : i46.res = [[0]] := rfl
def I46_0 (l : (List Int)) (n : Int)  (i : Nat) (fr : Fr) (S : St) : Prop := ∃ f : Nat → AV, fr = frOf 35 f ∧ f 0 = .ts .imm 1 (l.map encInt) ∧ f 1 = .int .i64 n ∧ f 7 = .ts .imm 1 (l.map encInt) ∧ f 8 = .int .i64 l.length ∧ f 9 = .int .i64 i ∧ S = [] ∧ ∀ j, j < i → inR (nth l j) 0 (n - 1) = true
def R46_0 (l : (List Int)) (n : Int)  (r : Option (Ex × Fr × St)) : Prop := (∃ f : Nat → AV, r = some (.ret, frOf 35 f, []) ∧ f 4 = .bool false ∧ (l.all fun x => inR x 0 (n - 1)) = false) ∨ (∃ f : Nat → AV, r = some (.exit 0, frOf 35 f, []) ∧ f 0 = .ts .imm 1 (l.map encInt) ∧ f 1 = .int .i64 n ∧ (l.all fun x => inR x 0 (n - 1)) = true)
theorem L46_0 (l : (List Int)) (n : Int) (h0 : l.length ≤ 1048576) (h1 : 2 ≤ n) (h2 : n ≤ 12)   : ∀ i fr S, i ≤ l.length → I46_0 l n  i fr S → R46_0 l n  (evCL T 0 (.loop l46_0) fr S) := by
  refine loopQ _ _ _ ?_ ?_
  · rintro i fr S hi ⟨f, rfl, t0, t1, t7, t8, t9, rfl, hf⟩
    have hwi : IntKind.i64.wrap ((i : Int) + 1) = (i : Int) + 1 := wrap64 (by omega) (by omega)
    by_cases ht1 : nth l i < 0
    · simp -implicitDefEqProofs [r46_0, r46_1, r46_2, r46_3, r46_4, r46_5, r46_6, r46_7, l46_0, h0, h1, h2, -List.getElem?_map, -getElem?_pos, List.getElem?_cons_zero, map_get, -List.map_take, -List.map_drop, take_map, drop_map, upd_ne, frOf_set, frOf_get, frOf_getD, encInt, t0, t1, t7, t8, t9, hi, hwi, ht1]
      refine .ret _ _ (Or.inl ⟨_, rfl, (by first | rfl | assumption | simp [upd, *]), ?_⟩); exact fa_no hi (by simp [inR]; omega)
    · by_cases ht2 : n ≤ nth l i
      · simp -implicitDefEqProofs [r46_0, r46_1, r46_2, r46_3, r46_4, r46_5, r46_6, r46_7, l46_0, h0, h1, h2, -List.getElem?_map, -getElem?_pos, List.getElem?_cons_zero, map_get, -List.map_take, -List.map_drop, take_map, drop_map, upd_ne, frOf_set, frOf_get, frOf_getD, encInt, t0, t1, t7, t8, t9, hi, hwi, ht1, ht2]
        refine .ret _ _ (Or.inl ⟨_, rfl, (by first | rfl | assumption | simp [upd, *]), ?_⟩); exact fa_no hi (by simp [inR]; omega)
      · simp -implicitDefEqProofs [r46_0, r46_1, r46_2, r46_3, r46_4, r46_5, r46_6, r46_7, l46_0, h0, h1, h2, -List.getElem?_map, -getElem?_pos, List.getElem?_cons_zero, map_get, -List.map_take, -List.map_drop, take_map, drop_map, upd_ne, frOf_set, frOf_get, frOf_getD, encInt, t0, t1, t7, t8, t9, hi, hwi, ht1, ht2]
        refine .go _ _ ⟨_, rfl, (by first | rfl | assumption | simp [upd, *]), (by first | rfl | assumption | simp [upd, *]), (by first | rfl | assumption | simp [upd, *]), (by first | rfl | assumption | simp [upd, *]), (by first | rfl | assumption | simp [upd, *]), rfl, ?_⟩; exact fa_succ hf (by simp [inR]; omega)
  · rintro fr S ⟨f, rfl, t0, t1, t7, t8, t9, rfl, hf⟩
    simp -implicitDefEqProofs [r46_0, r46_1, r46_2, r46_3, r46_4, r46_5, r46_6, r46_7, l46_0, h0, h1, h2, -List.getElem?_map, -getElem?_pos, List.getElem?_cons_zero, map_get, -List.map_take, -List.map_drop, take_map, drop_map, upd_ne, frOf_set, frOf_get, frOf_getD, encInt, t0, t1, t7, t8, t9]
    refine .exit _ _ _ (Or.inr ⟨_, rfl, (by first | rfl | assumption | simp [upd, *]), (by first | rfl | assumption | simp [upd, *]), ?_⟩)
    exact fa_all hf
theorem e46 (l : (List Int)) (n : Int) (h0 : l.length ≤ 1048576) (h1 : 2 ≤ n) (h2 : n ≤ 12) : evFL T 46 [.ts .imm 1 (l.map encInt), .int .i64 n] [] = some (.bool (rowB n l), []) := by
  rw [evFL_at fn46 (by simp)]
  simp -implicitDefEqProofs [c46, r46_0, r46_1, r46_2, r46_3, r46_4, r46_5, r46_6, r46_7, h0, h1, h2, -List.getElem?_map, -getElem?_pos, List.getElem?_cons_zero, map_get, -List.map_take, -List.map_drop, take_map, drop_map, upd_ne, frOf_set, frOf_get, frOf_getD, encInt]
  generalize hr : evCL T 0 (.loop l46_0) _ _ = r
  have h : R46_0 l n  r := by rw [← hr]; exact L46_0 l n h0 h1 h2  (0) _ _ (by omega) ⟨_, rfl, (by simp [upd, *]), (by simp [upd, *]), (by simp [upd, *]), (by simp [upd, *]), (by simp [upd, *]), rfl, by simp⟩
  clear hr
  rcases h with h | h
  · obtain ⟨f0, rfl, u0_4, hf0⟩ := h
    simp -implicitDefEqProofs [r46_0, r46_1, r46_2, r46_3, r46_4, r46_5, r46_6, r46_7, h0, h1, h2, -List.getElem?_map, -getElem?_pos, List.getElem?_cons_zero, map_get, -List.map_take, -List.map_drop, take_map, drop_map, upd_ne, frOf_set, frOf_get, frOf_getD, encInt, u0_4, hf0, rowB]
  obtain ⟨f0, rfl, u0_0, u0_1, hf0⟩ := h
  obtain ⟨k, rfl⟩ : ∃ k : Nat, n = (k : Int) + 1 := ⟨(n - 1).toNat, by omega⟩
  by_cases hl : (l.length : Int) = (k : Int) + 1
  · have hk : k < l.length := by omega
    have hwn : IntKind.i64.wrap (k : Int) = (k : Int) := wrap64 (by omega) (by omega)
    simp -implicitDefEqProofs [r46_0, r46_1, r46_2, r46_3, r46_4, r46_5, r46_6, r46_7, h0, h1, h2, -List.getElem?_map, -getElem?_pos, List.getElem?_cons_zero, map_get, -List.map_take, -List.map_drop, take_map, drop_map, upd_ne, frOf_set, frOf_get, frOf_getD, encInt, u0_0, u0_1, hf0, rowB, hl, hk, hwn]
    intro _; simpa using hf0
  · simp -implicitDefEqProofs [r46_0, r46_1, r46_2, r46_3, r46_4, r46_5, r46_6, r46_7, h0, h1, h2, -List.getElem?_map, -getElem?_pos, List.getElem?_cons_zero, map_get, -List.map_take, -List.map_drop, take_map, drop_map, upd_ne, frOf_set, frOf_get, frOf_getD, encInt, u0_0, u0_1, hf0, rowB, hl]
-- spec.GoodAlgebra
@[simp] theorem call13 {m : Nat} (args : List AV) (S : St) : evCall T m (evFL T) 13 args S = lendC (evFL T 13) S (lendAll S i13.pes args) := evCall0 fn13 rfl rfl args S
@[simp] theorem callz13 (args : List AV) (S : St) : evCallFz T (evFL T) 13 args S = lendZ (evFL T 13) S i13.res (lendAll S i13.pes args) := evCallFz0 fn13 rfl rfl args S
@[simp] theorem pes13 : i13.pes = [[0, 1]] := rfl
@[simp] theorem body13 : i13.body = c13 := rfl
@[simp] theorem kind13 : i13.kind = 0 := rfl
@[simp] theorem tree13 : i13.tree = false := rfl
@[simp] theorem ntmps13 : i13.ntmps = 29 := rfl
@[simp] theorem results13 : i13.results = [(ResultVar.tmp 2)] := rfl
@[simp] theorem res13 : i13.res = [[0]] := rfl
def I13_0 (a_weights : Int) (a_apply : (List (List Int)))  (i : Nat) (fr : Fr) (S : St) : Prop := ∃ f : Nat → AV, fr = frOf 29 f ∧ f 1 = .ptr 0 0 0 ∧ f 17 = .ts .imm 1 (a_apply.map (encLInt .imm)) ∧ f 18 = .int .i64 a_apply.length ∧ f 19 = .int .i64 i ∧ S = [some ⟨.box, 2, [[.int .i64 a_weights, .ts .imm 1 (a_apply.map (encLInt .imm))]]⟩] ∧ ∀ j, j < i → rowB a_weights (nth a_apply j) = true
def R13_0 (a_weights : Int) (a_apply : (List (List Int)))  (r : Option (Ex × Fr × St)) : Prop := (∃ f : Nat → AV, r = some (.ret, frOf 29 f, [some ⟨.box, 2, [[.int .i64 a_weights, .ts .imm 1 (a_apply.map (encLInt .imm))]]⟩]) ∧ f 2 = .bool false ∧ a_apply.all (rowB a_weights) = false) ∨ (∃ f : Nat → AV, r = some (.exit 0, frOf 29 f, [some ⟨.box, 2, [[.int .i64 a_weights, .ts .imm 1 (a_apply.map (encLInt .imm))]]⟩]) ∧ a_apply.all (rowB a_weights) = true)
theorem L13_0 (a_weights : Int) (a_apply : (List (List Int))) (ha0 : a_apply.length ≤ 1048576) (ha1 : smsLInt a_apply)  (hw : inR a_weights 2 12 = true) : ∀ i fr S, i ≤ a_apply.length → I13_0 a_weights a_apply  i fr S → R13_0 a_weights a_apply  (evCL T 0 (.loop l13_0) fr S) := by
  refine loopQ _ _ _ ?_ ?_
  · rintro i fr S hi ⟨f, rfl, t1, t17, t18, t19, rfl, hf⟩
    have hwi : IntKind.i64.wrap ((i : Int) + 1) = (i : Int) + 1 := wrap64 (by omega) (by omega)
    have hy := ha1 (nth a_apply i) (nth_mem hi)
    simp only [smLInt] at hy
    have hw2 : 2 ≤ a_weights ∧ a_weights ≤ 12 := by simpa [inR] using hw
    obtain ⟨hw3, hw4⟩ := hw2
    cases hc : rowB a_weights (nth a_apply i)
    · simp -implicitDefEqProofs [r13_0, r13_1, r13_2, r13_3, r13_4, r13_5, r13_6, r13_7, r13_8, r13_9, l13_0, ha0, ha1, call45, callz45, e45, call46, callz46, e46, -List.getElem?_map, -getElem?_pos, List.getElem?_cons_zero, map_get, -List.map_take, -List.map_drop, take_map, drop_map, upd_ne, frOf_set, frOf_get, frOf_getD, encLInt, t1, t17, t18, t19, hi, hwi, hy, hw3, hw4, hc]
      refine .ret _ _ (Or.inl ⟨_, rfl, (by first | rfl | assumption | simp [upd, *]), ?_⟩); exact fa_no hi hc
    · simp -implicitDefEqProofs [r13_0, r13_1, r13_2, r13_3, r13_4, r13_5, r13_6, r13_7, r13_8, r13_9, l13_0, ha0, ha1, call45, callz45, e45, call46, callz46, e46, -List.getElem?_map, -getElem?_pos, List.getElem?_cons_zero, map_get, -List.map_take, -List.map_drop, take_map, drop_map, upd_ne, frOf_set, frOf_get, frOf_getD, encLInt, t1, t17, t18, t19, hi, hwi, hy, hw3, hw4, hc]
      refine .go _ _ ⟨_, rfl, (by first | rfl | assumption | simp [upd, *]), (by first | rfl | assumption | simp [upd, *]), (by first | rfl | assumption | simp [upd, *]), (by first | rfl | assumption | simp [upd, *]), rfl, ?_⟩; exact fa_succ hf hc
  · rintro fr S ⟨f, rfl, t1, t17, t18, t19, rfl, hf⟩
    simp -implicitDefEqProofs [r13_0, r13_1, r13_2, r13_3, r13_4, r13_5, r13_6, r13_7, r13_8, r13_9, l13_0, ha0, ha1, call45, callz45, e45, call46, callz46, e46, -List.getElem?_map, -getElem?_pos, List.getElem?_cons_zero, map_get, -List.map_take, -List.map_drop, take_map, drop_map, upd_ne, frOf_set, frOf_get, frOf_getD, encLInt, t1, t17, t18, t19]
    refine .exit _ _ _ (Or.inr ⟨_, rfl, ?_⟩)
    exact fa_all hf
theorem e13 (a_weights : Int) (a_apply : (List (List Int))) (ha0 : a_apply.length ≤ 1048576) (ha1 : smsLInt a_apply) : evFL T 13 [.agg [.int .i64 a_weights, .ts .imm 1 (a_apply.map (encLInt .imm))]] [] = some (.bool (algB (⟨a_weights, a_apply⟩ : Algebra)), []) := by
  rw [evFL_at fn13 (by simp)]
  cases hw : inR a_weights 2 12
  · simp -implicitDefEqProofs [c13, r13_0, r13_1, r13_2, r13_3, r13_4, r13_5, r13_6, r13_7, r13_8, r13_9, ha0, ha1, call45, callz45, e45, call46, callz46, e46, -List.getElem?_map, -getElem?_pos, List.getElem?_cons_zero, map_get, -List.map_take, -List.map_drop, take_map, drop_map, upd_ne, frOf_set, frOf_get, frOf_getD, encLInt, hw, algB]
  cases hn : inR (a_apply.length : Int) 1 4
  · simp -implicitDefEqProofs [c13, r13_0, r13_1, r13_2, r13_3, r13_4, r13_5, r13_6, r13_7, r13_8, r13_9, ha0, ha1, call45, callz45, e45, call46, callz46, e46, -List.getElem?_map, -getElem?_pos, List.getElem?_cons_zero, map_get, -List.map_take, -List.map_drop, take_map, drop_map, upd_ne, frOf_set, frOf_get, frOf_getD, encLInt, hw, hn, algB]
  simp -implicitDefEqProofs [c13, r13_0, r13_1, r13_2, r13_3, r13_4, r13_5, r13_6, r13_7, r13_8, r13_9, ha0, ha1, call45, callz45, e45, call46, callz46, e46, -List.getElem?_map, -getElem?_pos, List.getElem?_cons_zero, map_get, -List.map_take, -List.map_drop, take_map, drop_map, upd_ne, frOf_set, frOf_get, frOf_getD, encLInt, hw, hn]
  generalize hr : evCL T 0 (.loop l13_0) _ _ = r
  have h : R13_0 a_weights a_apply  r := by rw [← hr]; exact L13_0 a_weights a_apply ha0 ha1 hw (0) _ _ (by omega) ⟨_, rfl, (by simp [upd, *]), (by simp [upd, *]), (by simp [upd, *]), (by simp [upd, *]), rfl, by simp⟩
  clear hr
  rcases h with h | h
  · obtain ⟨f0, rfl, u0_2, hf0⟩ := h
    simp -implicitDefEqProofs [r13_0, r13_1, r13_2, r13_3, r13_4, r13_5, r13_6, r13_7, r13_8, r13_9, ha0, ha1, call45, callz45, e45, call46, callz46, e46, -List.getElem?_map, -getElem?_pos, List.getElem?_cons_zero, map_get, -List.map_take, -List.map_drop, take_map, drop_map, upd_ne, frOf_set, frOf_get, frOf_getD, encLInt, u0_2, hf0, algB]
  obtain ⟨f0, rfl, hf0⟩ := h
  simp -implicitDefEqProofs [r13_0, r13_1, r13_2, r13_3, r13_4, r13_5, r13_6, r13_7, r13_8, r13_9, ha0, ha1, call45, callz45, e45, call46, callz46, e46, -List.getElem?_map, -getElem?_pos, List.getElem?_cons_zero, map_get, -List.map_take, -List.map_drop, take_map, drop_map, upd_ne, frOf_set, frOf_get, frOf_getD, encLInt, hf0, algB, hw, hn]
theorem fset28 {a : (List Int)} {i : Nat} (h : i < a.length) : (filled encInt [.int .i64 0] a i).set i [.int .i64 (nth a i)] = filled encInt [.int .i64 0] a (i + 1) := filled_set h
-- laws.toIntS
@[simp] theorem call28 {m : Nat} (args : List AV) (S : St) : evCall T m (evFL T) 28 args S = lendC (evFL T 28) S (lendAll S i28.pes args) := evCall0 fn28 rfl rfl args S
@[simp] theorem callz28 (args : List AV) (S : St) : evCallFz T (evFL T) 28 args S = lendZ (evFL T 28) S i28.res (lendAll S i28.pes args) := evCallFz0 fn28 rfl rfl args S
@[simp] theorem pes28 : i28.pes = [[1]] := rfl
@[simp] theorem body28 : i28.body = c28 := rfl
@[simp] theorem kind28 : i28.kind = 0 := rfl
@[simp] theorem tree28 : i28.tree = false := rfl
@[simp] theorem ntmps28 : i28.ntmps = 22 := rfl
@[simp] theorem results28 : i28.results = [(ResultVar.tmp 2)] := rfl
@[simp] theorem res28 : i28.res = [[1]] := rfl
def I28_0 (a : (List Int))  (i : Nat) (fr : Fr) (S : St) : Prop := ∃ f : Nat → AV, fr = frOf 22 f ∧ f 0 = .ts .imm 1 (a.map encInt) ∧ f 3 = .sl 0 0 a.length ∧ f 4 = .int .i64 i ∧ S = [some ⟨.arr, 1, filled encInt [.int .i64 0] a i⟩] ∧ True
def R28_0 (a : (List Int))  (r : Option (Ex × Fr × St)) : Prop := (∃ f : Nat → AV, r = some (.exit 0, frOf 22 f, [some ⟨.arr, 1, filled encInt [.int .i64 0] a a.length⟩]) ∧ f 3 = .sl 0 0 a.length ∧ True)
theorem L28_0 (a : (List Int)) (ha0 : a.length ≤ 1048576)   : ∀ i fr S, i ≤ a.length → I28_0 a  i fr S → R28_0 a  (evCL T 0 (.loop l28_0) fr S) := by
  refine loopQ _ _ _ ?_ ?_
  · rintro i fr S hi ⟨f, rfl, t0, t3, t4, rfl, hf⟩
    have hm : (a.length : Int) ≤ 4294967296 := by omega
    have hm1 : a.length ≤ 4294967296 := by omega
    have hwi : IntKind.i64.wrap ((i : Int) + 1) = (i : Int) + 1 := wrap64 (by omega) (by omega)
    all_goals simp -implicitDefEqProofs [r28_0, r28_1, r28_2, r28_3, r28_4, r28_5, r28_6, l28_0, ha0, -List.getElem?_map, -getElem?_pos, List.getElem?_cons_zero, map_get, -List.map_take, -List.map_drop, take_map, drop_map, upd_ne, frOf_set, frOf_get, frOf_getD, encInt, hm, hm1, fset28, filled_get, t0, t3, t4, hi, hwi]
    all_goals first | (refine .go _ _ ⟨_, rfl, (by first | rfl | assumption | simp [upd, *]), (by first | rfl | assumption | simp [upd, *]), (by first | rfl | assumption | simp [upd, *]), rfl, ?_⟩; first | trivial | assumption | simp [*]) | (refine .exit _ _ _ ⟨_, rfl, (by first | rfl | assumption | simp [upd, *]), ?_⟩; first | trivial | assumption | simp [*])
  · rintro fr S ⟨f, rfl, t0, t3, t4, rfl, hf⟩
    have hm : (a.length : Int) ≤ 4294967296 := by omega
    have hm1 : a.length ≤ 4294967296 := by omega
    simp -implicitDefEqProofs [r28_0, r28_1, r28_2, r28_3, r28_4, r28_5, r28_6, l28_0, ha0, -List.getElem?_map, -getElem?_pos, List.getElem?_cons_zero, map_get, -List.map_take, -List.map_drop, take_map, drop_map, upd_ne, frOf_set, frOf_get, frOf_getD, encInt, hm, hm1, fset28, filled_get, t0, t3, t4]
    refine .exit _ _ _ ⟨_, rfl, (by first | rfl | assumption | simp [upd, *]), ?_⟩
    first | trivial | assumption | simp [*]
theorem e28 (a : (List Int)) (ha0 : a.length ≤ 1048576) : evFL T 28 [.ts .imm 1 (a.map encInt)] [] = some (.sl 0 0 a.length, [some ⟨.arr, 1, a.map encInt⟩]) := by
  rw [evFL_at fn28 (by simp)]
  have hm : (a.length : Int) ≤ 4294967296 := by omega
  have hm1 : a.length ≤ 4294967296 := by omega
  simp -implicitDefEqProofs [c28, r28_0, r28_1, r28_2, r28_3, r28_4, r28_5, r28_6, ha0, -List.getElem?_map, -getElem?_pos, List.getElem?_cons_zero, map_get, -List.map_take, -List.map_drop, take_map, drop_map, upd_ne, frOf_set, frOf_get, frOf_getD, encInt, hm, hm1]
  generalize hr : evCL T 0 (.loop l28_0) _ _ = r
  have h : R28_0 a  r := by rw [← hr]; exact L28_0 a ha0  (0) _ _ (by omega) ⟨_, rfl, (by simp [upd, *]), (by simp [upd, *]), (by simp [upd, *]), by simp [← filled_zero], by first | trivial | assumption | simp⟩
  clear hr
  obtain ⟨f0, rfl, u0_3, hf0⟩ := h
  simp -implicitDefEqProofs [r28_0, r28_1, r28_2, r28_3, r28_4, r28_5, r28_6, ha0, -List.getElem?_map, -getElem?_pos, List.getElem?_cons_zero, map_get, -List.map_take, -List.map_drop, take_map, drop_map, upd_ne, frOf_set, frOf_get, frOf_getD, encInt, hm, hm1, u0_3, hf0, filled_end]
theorem fset47 {a : (List (List Int))} {i : Nat} (h : i < a.length) : (filled (encLInt .own) [.ts .own 1 []] a i).set i [.ts .own 1 ((nth a i).map encInt)] = filled (encLInt .own) [.ts .own 1 []] a (i + 1) := filled_set h
-- laws.toIntSS
@[simp] theorem call47 {m : Nat} (args : List AV) (S : St) : evCall T m (evFL T) 47 args S = lendC (evFL T 47) S (lendAll S i47.pes args) := evCall0 fn47 rfl rfl args S
@[simp] theorem callz47 (args : List AV) (S : St) : evCallFz T (evFL T) 47 args S = lendZ (evFL T 47) S i47.res (lendAll S i47.pes args) := evCallFz0 fn47 rfl rfl args S
@[simp] theorem pes47 : i47.pes = [[1]] := rfl
@[simp] theorem body47 : i47.body = c47 := rfl
@[simp] theorem kind47 : i47.kind = 0 := rfl
@[simp] theorem tree47 : i47.tree = false := rfl
@[simp] theorem ntmps47 : i47.ntmps = 23 := rfl
@[simp] theorem results47 : i47.results = [(ResultVar.tmp 2)] := rfl
@[simp] theorem res47 : i47.res = [[1]] := rfl
def I47_0 (a : (List (List Int)))  (i : Nat) (fr : Fr) (S : St) : Prop := ∃ f : Nat → AV, ∃ G : St, fr = frOf 23 f ∧ f 0 = .ts .imm 1 (a.map (encLInt .imm)) ∧ f 3 = .sl 0 0 a.length ∧ f 4 = .int .i64 i ∧ S = some ⟨.arr, 1, filled (encLInt .own) [.ts .own 1 []] a i⟩ :: G ∧ True
def R47_0 (a : (List (List Int)))  (r : Option (Ex × Fr × St)) : Prop := (∃ f : Nat → AV, ∃ G : St, r = some (.exit 0, frOf 23 f, some ⟨.arr, 1, filled (encLInt .own) [.ts .own 1 []] a a.length⟩ :: G) ∧ f 3 = .sl 0 0 a.length ∧ True)
theorem L47_0 (a : (List (List Int))) (ha0 : a.length ≤ 1048576) (ha1 : smsLInt a)   : ∀ i fr S, i ≤ a.length → I47_0 a  i fr S → R47_0 a  (evCL T 0 (.loop l47_0) fr S) := by
  refine loopQ _ _ _ ?_ ?_
  · rintro i fr S hi ⟨f, G, rfl, t0, t3, t4, rfl, hf⟩
    have hm : (a.length : Int) ≤ 4294967296 := by omega
    have hm1 : a.length ≤ 4294967296 := by omega
    have hwi : IntKind.i64.wrap ((i : Int) + 1) = (i : Int) + 1 := wrap64 (by omega) (by omega)
    have hy := ha1 (nth a i) (nth_mem hi)
    simp only [smLInt] at hy
    have ef := e28 ((nth a i)) hy
    all_goals simp -implicitDefEqProofs [r47_0, r47_1, r47_2, r47_3, r47_4, r47_5, r47_6, l47_0, ha0, ha1, call28, callz28, e28, -List.getElem?_map, -getElem?_pos, List.getElem?_cons_zero, map_get, -List.map_take, -List.map_drop, take_map, drop_map, upd_ne, frOf_set, frOf_get, frOf_getD, encLInt, hm, hm1, fset47, filled_get, t0, t3, t4, hi, hwi, hy, ef]
    all_goals first | (refine .go _ _ ⟨_, _, rfl, (by first | rfl | assumption | simp [upd, *]), (by first | rfl | assumption | simp [upd, *]), (by first | rfl | assumption | simp [upd, *]), rfl, ?_⟩; first | trivial | assumption | simp [*]) | (refine .exit _ _ _ ⟨_, _, rfl, (by first | rfl | assumption | simp [upd, *]), ?_⟩; first | trivial | assumption | simp [*])
  · rintro fr S ⟨f, G, rfl, t0, t3, t4, rfl, hf⟩
    have hm : (a.length : Int) ≤ 4294967296 := by omega
    have hm1 : a.length ≤ 4294967296 := by omega
    simp -implicitDefEqProofs [r47_0, r47_1, r47_2, r47_3, r47_4, r47_5, r47_6, l47_0, ha0, ha1, call28, callz28, e28, -List.getElem?_map, -getElem?_pos, List.getElem?_cons_zero, map_get, -List.map_take, -List.map_drop, take_map, drop_map, upd_ne, frOf_set, frOf_get, frOf_getD, encLInt, hm, hm1, fset47, filled_get, t0, t3, t4]
    refine .exit _ _ _ ⟨_, _, rfl, (by first | rfl | assumption | simp [upd, *]), ?_⟩
    first | trivial | assumption | simp [*]
theorem e47 (a : (List (List Int))) (ha0 : a.length ≤ 1048576) (ha1 : smsLInt a) : evFL T 47 [.ts .imm 1 (a.map (encLInt .imm))] [] = some (.sl 0 0 a.length, [some ⟨.arr, 1, a.map (encLInt .own)⟩]) := by
  rw [evFL_at fn47 (by simp)]
  have hm : (a.length : Int) ≤ 4294967296 := by omega
  have hm1 : a.length ≤ 4294967296 := by omega
  simp -implicitDefEqProofs [c47, r47_0, r47_1, r47_2, r47_3, r47_4, r47_5, r47_6, ha0, ha1, call28, callz28, e28, -List.getElem?_map, -getElem?_pos, List.getElem?_cons_zero, map_get, -List.map_take, -List.map_drop, take_map, drop_map, upd_ne, frOf_set, frOf_get, frOf_getD, encLInt, hm, hm1]
  generalize hr : evCL T 0 (.loop l47_0) _ _ = r
  have h : R47_0 a  r := by rw [← hr]; exact L47_0 a ha0 ha1  (0) _ _ (by omega) ⟨_, _, rfl, (by simp [upd, *]), (by simp [upd, *]), (by simp [upd, *]), by simp [← filled_zero]; rfl, by first | trivial | assumption | simp⟩
  clear hr
  obtain ⟨f0, G, rfl, u0_3, hf0⟩ := h
  simp -implicitDefEqProofs [r47_0, r47_1, r47_2, r47_3, r47_4, r47_5, r47_6, ha0, ha1, call28, callz28, e28, -List.getElem?_map, -getElem?_pos, List.getElem?_cons_zero, map_get, -List.map_take, -List.map_drop, take_map, drop_map, upd_ne, frOf_set, frOf_get, frOf_getD, encLInt, hm, hm1, u0_3, hf0, filled_end]
-- laws.toAlgebra
@[simp] theorem call14 {m : Nat} (args : List AV) (S : St) : evCall T m (evFL T) 14 args S = lendC (evFL T 14) S (lendAll S i14.pes args) := evCall0 fn14 rfl rfl args S
@[simp] theorem callz14 (args : List AV) (S : St) : evCallFz T (evFL T) 14 args S = lendZ (evFL T 14) S i14.res (lendAll S i14.pes args) := evCallFz0 fn14 rfl rfl args S
@[simp] theorem pes14 : i14.pes = [[0, 1]] := rfl
@[simp] theorem body14 : i14.body = c14 := rfl
@[simp] theorem kind14 : i14.kind = 0 := rfl
@[simp] theorem tree14 : i14.tree = false := rfl
@[simp] theorem ntmps14 : i14.ntmps = 12 := rfl
@[simp] theorem results14 : i14.results = [(ResultVar.cell 2 27)] := rfl
@[simp] theorem res14 : i14.res = [[0, 1]] := rfl
theorem e14 (a_weights : Int) (a_apply : (List (List Int))) (ha0 : a_apply.length ≤ 1048576) (ha1 : smsLInt a_apply) : evFL T 14 [.agg [.int .i64 a_weights, .ts .imm 1 (a_apply.map (encLInt .imm))]] [] = some (.agg [.int .i64 a_weights, .sl 0 0 a_apply.length], [some ⟨.arr, 1, a_apply.map (encLInt .own)⟩]) := by
  rw [evFL_at fn14 (by simp)]
  have ef0 := e47 a_apply ha0 ha1
  all_goals simp -implicitDefEqProofs [c14, r14_0, r14_1, r14_2, r14_3, r14_4, ha0, ha1, call47, callz47, e47, -List.getElem?_map, -getElem?_pos, List.getElem?_cons_zero, map_get, -List.map_take, -List.map_drop, take_map, drop_map, upd_ne, frOf_set, frOf_get, frOf_getD, ef0]
-- impl.within
@[simp] theorem call48 {m : Nat} (args : List AV) (S : St) : evCall T m (evFL T) 48 args S = lendC (evFL T 48) S (lendAll S i48.pes args) := evCall0 fn48 rfl rfl args S
@[simp] theorem callz48 (args : List AV) (S : St) : evCallFz T (evFL T) 48 args S = lendZ (evFL T 48) S i48.res (lendAll S i48.pes args) := evCallFz0 fn48 rfl rfl args S
@[simp] theorem pes48 : i48.pes = [[0], [0], [0]] := rfl
@[simp] theorem body48 : i48.body = c48 := rfl
@[simp] theorem kind48 : i48.kind = 0 := rfl
@[simp] theorem tree48 : i48.tree = false := rfl
@[simp] theorem ntmps48 : i48.ntmps = 15 := rfl
@[simp] theorem results48 : i48.results = [(ResultVar.tmp 6)] := rfl
@[simp] theorem res48 : i48.res = [[0]] := rfl
theorem e48 (a : Int) (b : Int) (c : Int)  : evFL T 48 [.int .i64 a, .int .i64 b, .int .i64 c] [] = some (.bool (inR a b c), []) := by
  rw [evFL_at fn48 (by simp)]
  by_cases hc0 : b ≤ a
  all_goals simp -implicitDefEqProofs [c48, r48_0, r48_1, -List.getElem?_map, -getElem?_pos, List.getElem?_cons_zero, map_get, -List.map_take, -List.map_drop, take_map, drop_map, upd_ne, frOf_set, frOf_get, frOf_getD, inR, hc0]
-- slices.IndexFunc[[][]int,[]int]
@[simp] theorem call77 {m : Nat} (args : List AV) (S : St) : evCall T m (evFL T) 77 args S = lendC (evFL T 77) S (lendAll S i77.pes args) := evCall0 fn77 rfl rfl args S
@[simp] theorem callz77 (args : List AV) (S : St) : evCallFz T (evFL T) 77 args S = lendZ (evFL T 77) S i77.res (lendAll S i77.pes args) := evCallFz0 fn77 rfl rfl args S
@[simp] theorem pes77 : i77.pes = [[1], [0]] := rfl
@[simp] theorem body77 : i77.body = c77 := rfl
@[simp] theorem kind77 : i77.kind = 0 := rfl
@[simp] theorem tree77 : i77.tree = false := rfl
@[simp] theorem ntmps77 : i77.ntmps = 19 := rfl
@[simp] theorem results77 : i77.results = [(ResultVar.tmp 4)] := rfl
@[simp] theorem res77 : i77.res = [[0]] := rfl
def I77_0 (a : (List (List Int))) (g : Nat) (caps : List AV) (p : (List Int) → Bool)  (i : Nat) (fr : Fr) (S : St) : Prop := ∃ f : Nat → AV, fr = frOf 19 f ∧ f 0 = .ts .imm 1 (a.map (encLInt .imm)) ∧ f 1 = .fn g caps ∧ f 7 = .int .i64 a.length ∧ f 8 = .int .i64 i ∧ S = [] ∧ ∀ j, j < i → p (nth a j) = false
def R77_0 (a : (List (List Int))) (g : Nat) (caps : List AV) (p : (List Int) → Bool)  (r : Option (Ex × Fr × St)) : Prop := (∃ f : Nat → AV, ∃ j : Int, r = some (.ret, frOf 19 f, []) ∧ f 4 = .int .i64 j ∧ idxF p a = j) ∨ (∃ f : Nat → AV, r = some (.exit 0, frOf 19 f, []) ∧ idxF p a = -1)
theorem L77_0 (a : (List (List Int))) (g : Nat) (caps : List AV) (p : (List Int) → Bool) (hp : ∀ x ∈ a, ∀ (m : Nat) (S : St), evCall T m (evFL T) g (.ts .imm 1 (x.map encInt) :: caps) S = some (.bool (p x), S)) (hn : a.length ≤ 9223372036854775807)   : ∀ i fr S, i ≤ a.length → I77_0 a g caps p  i fr S → R77_0 a g caps p  (evCL T 0 (.loop l77_0) fr S) := by
  refine loopQ _ _ _ ?_ ?_
  · rintro i fr S hi ⟨f, rfl, t0, t1, t7, t8, rfl, hf⟩
    have hwi : IntKind.i64.wrap ((i : Int) + 1) = (i : Int) + 1 := wrap64 (by omega) (by omega)
    have hpi := hp (nth a i) (nth_mem hi) 0
    cases hc : p (nth a i)
    · simp -implicitDefEqProofs [r77_0, r77_1, r77_2, r77_3, r77_4, r77_5, r77_6, r77_7, l77_0, hp, hn, -List.getElem?_map, -getElem?_pos, List.getElem?_cons_zero, map_get, -List.map_take, -List.map_drop, take_map, drop_map, upd_ne, frOf_set, frOf_get, frOf_getD, encLInt, t0, t1, t7, t8, hi, hwi, hpi, hc]
      refine .go _ _ ⟨_, rfl, (by first | rfl | assumption | simp [upd, *]), (by first | rfl | assumption | simp [upd, *]), (by first | rfl | assumption | simp [upd, *]), (by first | rfl | assumption | simp [upd, *]), rfl, ?_⟩; exact none_succ hf hc
    · simp -implicitDefEqProofs [r77_0, r77_1, r77_2, r77_3, r77_4, r77_5, r77_6, r77_7, l77_0, hp, hn, -List.getElem?_map, -getElem?_pos, List.getElem?_cons_zero, map_get, -List.map_take, -List.map_drop, take_map, drop_map, upd_ne, frOf_set, frOf_get, frOf_getD, encLInt, t0, t1, t7, t8, hi, hwi, hpi, hc]
      refine .ret _ _ (Or.inl ⟨_, _, rfl, (by first | rfl | assumption | simp [upd, *]), ?_⟩); exact idxF_hit hi hf hc
  · rintro fr S ⟨f, rfl, t0, t1, t7, t8, rfl, hf⟩
    simp -implicitDefEqProofs [r77_0, r77_1, r77_2, r77_3, r77_4, r77_5, r77_6, r77_7, l77_0, hp, hn, -List.getElem?_map, -getElem?_pos, List.getElem?_cons_zero, map_get, -List.map_take, -List.map_drop, take_map, drop_map, upd_ne, frOf_set, frOf_get, frOf_getD, encLInt, t0, t1, t7, t8]
    refine .exit _ _ _ (Or.inr ⟨_, rfl, ?_⟩)
    exact idxF_miss hf
theorem e77 (a : (List (List Int))) (g : Nat) (caps : List AV) (p : (List Int) → Bool) (hp : ∀ x ∈ a, ∀ (m : Nat) (S : St), evCall T m (evFL T) g (.ts .imm 1 (x.map encInt) :: caps) S = some (.bool (p x), S)) (hn : a.length ≤ 9223372036854775807) : evFL T 77 [.ts .imm 1 (a.map (encLInt .imm)), .fn g caps] [] = some (.int .i64 (idxF p a), []) := by
  rw [evFL_at fn77 (by simp)]
  simp -implicitDefEqProofs [c77, r77_0, r77_1, r77_2, r77_3, r77_4, r77_5, r77_6, r77_7, hp, hn, -List.getElem?_map, -getElem?_pos, List.getElem?_cons_zero, map_get, -List.map_take, -List.map_drop, take_map, drop_map, upd_ne, frOf_set, frOf_get, frOf_getD, encLInt]
  generalize hr : evCL T 0 (.loop l77_0) _ _ = r
  have h : R77_0 a g caps p  r := by rw [← hr]; exact L77_0 a g caps p hp hn  (0) _ _ (by omega) ⟨_, rfl, (by simp [upd, *]), (by simp [upd, *]), (by simp [upd, *]), (by simp [upd, *]), rfl, by simp⟩
  clear hr
  rcases h with h | h
  · obtain ⟨f0, j, rfl, u0_4, hf0⟩ := h
    simp -implicitDefEqProofs [r77_0, r77_1, r77_2, r77_3, r77_4, r77_5, r77_6, r77_7, hp, hn, -List.getElem?_map, -getElem?_pos, List.getElem?_cons_zero, map_get, -List.map_take, -List.map_drop, take_map, drop_map, upd_ne, frOf_set, frOf_get, frOf_getD, encLInt, u0_4, hf0] <;> try omega
  obtain ⟨f0, rfl, hf0⟩ := h
  simp -implicitDefEqProofs [r77_0, r77_1, r77_2, r77_3, r77_4, r77_5, r77_6, r77_7, hp, hn, -List.getElem?_map, -getElem?_pos, List.getElem?_cons_zero, map_get, -List.map_take, -List.map_drop, take_map, drop_map, upd_ne, frOf_set, frOf_get, frOf_getD, encLInt, hf0] <;> try omega
-- slices.ContainsFunc[[][]int,[]int]
@[simp] theorem call49 {m : Nat} (args : List AV) (S : St) : evCall T m (evFL T) 49 args S = lendC (evFL T 49) S (lendAll S i49.pes args) := evCall0 fn49 rfl rfl args S
@[simp] theorem callz49 (args : List AV) (S : St) : evCallFz T (evFL T) 49 args S = lendZ (evFL T 49) S i49.res (lendAll S i49.pes args) := evCallFz0 fn49 rfl rfl args S
@[simp] theorem pes49 : i49.pes = [[1], [0]] := rfl
@[simp] theorem body49 : i49.body = c49 := rfl
@[simp] theorem kind49 : i49.kind = 0 := rfl
@[simp] theorem tree49 : i49.tree = false := rfl
@[simp] theorem ntmps49 : i49.ntmps = 9 := rfl
@[simp] theorem results49 : i49.results = [(ResultVar.tmp 4)] := rfl
@[simp] theorem res49 : i49.res = [[0]] := rfl
theorem e49 (a : (List (List Int))) (g : Nat) (caps : List AV) (p : (List Int) → Bool) (hp : ∀ x ∈ a, ∀ (m : Nat) (S : St), evCall T m (evFL T) g (.ts .imm 1 (x.map encInt) :: caps) S = some (.bool (p x), S)) (hn : a.length ≤ 9223372036854775807) (hcaps : ∀ S, mapO (lendPtr S) caps = some caps) : evFL T 49 [.ts .imm 1 (a.map (encLInt .imm)), .fn g caps] [] = some (.bool (a.any p), []) := by
  rw [evFL_at fn49 (by simp)]
  have he := e77 a g caps p hp hn
  all_goals simp -implicitDefEqProofs [c49, r49_0, r49_1, hp, hn, hcaps, call77, callz77, e77, -List.getElem?_map, -getElem?_pos, List.getElem?_cons_zero, map_get, -List.map_take, -List.map_drop, take_map, drop_map, upd_ne, frOf_set, frOf_get, frOf_getD, he, idxF_any]
-- (impl.Algebra).worst
@[simp] theorem call51 {m : Nat} (args : List AV) (S : St) : evCall T m (evFL T) 51 args S = lendC (evFL T 51) S (lendAll S i51.pes args) := evCall0 fn51 rfl rfl args S
@[simp] theorem callz51 (args : List AV) (S : St) : evCallFz T (evFL T) 51 args S = lendZ (evFL T 51) S i51.res (lendAll S i51.pes args) := evCallFz0 fn51 rfl rfl args S
@[simp] theorem pes51 : i51.pes = [[0, 1]] := rfl
@[simp] theorem body51 : i51.body = c51 := rfl
@[simp] theorem kind51 : i51.kind = 0 := rfl
@[simp] theorem tree51 : i51.tree = false := rfl
@[simp] theorem ntmps51 : i51.ntmps = 6 := rfl
@[simp] theorem results51 : i51.results = [(ResultVar.tmp 2)] := rfl
@[simp] theorem res51 : i51.res = [[0]] := rfl
theorem e51 (a_weights : Int) (a_apply : (List (List Int))) (h1 : 2 ≤ a_weights) (h2 : a_weights ≤ 12) : evFL T 51 [.agg [.int .i64 a_weights, .ts .imm 1 (a_apply.map (encLInt .imm))]] [] = some (.int .i64 (a_weights - 1), []) := by
  rw [evFL_at fn51 (by simp)]
  have hwn : IntKind.i64.wrap (a_weights - 1) = a_weights - 1 := wrap64 (by omega) (by omega)
  all_goals simp -implicitDefEqProofs [c51, r51_0, r51_1, h1, h2, -List.getElem?_map, -getElem?_pos, List.getElem?_cons_zero, map_get, -List.map_take, -List.map_drop, take_map, drop_map, upd_ne, frOf_set, frOf_get, frOf_getD, hwn]
-- slices.IndexFunc[[]int,int]
@[simp] theorem call78 {m : Nat} (args : List AV) (S : St) : evCall T m (evFL T) 78 args S = lendC (evFL T 78) S (lendAll S i78.pes args) := evCall0 fn78 rfl rfl args S
@[simp] theorem callz78 (args : List AV) (S : St) : evCallFz T (evFL T) 78 args S = lendZ (evFL T 78) S i78.res (lendAll S i78.pes args) := evCallFz0 fn78 rfl rfl args S
@[simp] theorem pes78 : i78.pes = [[1], [0]] := rfl
@[simp] theorem body78 : i78.body = c78 := rfl
@[simp] theorem kind78 : i78.kind = 0 := rfl
@[simp] theorem tree78 : i78.tree = false := rfl
@[simp] theorem ntmps78 : i78.ntmps = 19 := rfl
@[simp] theorem results78 : i78.results = [(ResultVar.tmp 4)] := rfl
@[simp] theorem res78 : i78.res = [[0]] := rfl
def I78_0 (a : (List Int)) (g : Nat) (caps : List AV) (p : Int → Bool)  (i : Nat) (fr : Fr) (S : St) : Prop := ∃ f : Nat → AV, fr = frOf 19 f ∧ f 0 = .ts .imm 1 (a.map encInt) ∧ f 1 = .fn g caps ∧ f 7 = .int .i64 a.length ∧ f 8 = .int .i64 i ∧ S = [] ∧ ∀ j, j < i → p (nth a j) = false
def R78_0 (a : (List Int)) (g : Nat) (caps : List AV) (p : Int → Bool)  (r : Option (Ex × Fr × St)) : Prop := (∃ f : Nat → AV, ∃ j : Int, r = some (.ret, frOf 19 f, []) ∧ f 4 = .int .i64 j ∧ idxF p a = j) ∨ (∃ f : Nat → AV, r = some (.exit 0, frOf 19 f, []) ∧ idxF p a = -1)
theorem L78_0 (a : (List Int)) (g : Nat) (caps : List AV) (p : Int → Bool) (hp : ∀ x ∈ a, ∀ (m : Nat) (S : St), evCall T m (evFL T) g (.int .i64 x :: caps) S = some (.bool (p x), S)) (hn : a.length ≤ 9223372036854775807)   : ∀ i fr S, i ≤ a.length → I78_0 a g caps p  i fr S → R78_0 a g caps p  (evCL T 0 (.loop l78_0) fr S) := by
  refine loopQ _ _ _ ?_ ?_
  · rintro i fr S hi ⟨f, rfl, t0, t1, t7, t8, rfl, hf⟩
    have hwi : IntKind.i64.wrap ((i : Int) + 1) = (i : Int) + 1 := wrap64 (by omega) (by omega)
    have hpi := hp (nth a i) (nth_mem hi) 0
    cases hc : p (nth a i)
    · simp -implicitDefEqProofs [r78_0, r78_1, r78_2, r78_3, r78_4, r78_5, r78_6, r78_7, l78_0, hp, hn, -List.getElem?_map, -getElem?_pos, List.getElem?_cons_zero, map_get, -List.map_take, -List.map_drop, take_map, drop_map, upd_ne, frOf_set, frOf_get, frOf_getD, encInt, t0, t1, t7, t8, hi, hwi, hpi, hc]
      refine .go _ _ ⟨_, rfl, (by first | rfl | assumption | simp [upd, *]), (by first | rfl | assumption | simp [upd, *]), (by first | rfl | assumption | simp [upd, *]), (by first | rfl | assumption | simp [upd, *]), rfl, ?_⟩; exact none_succ hf hc
    · simp -implicitDefEqProofs [r78_0, r78_1, r78_2, r78_3, r78_4, r78_5, r78_6, r78_7, l78_0, hp, hn, -List.getElem?_map, -getElem?_pos, List.getElem?_cons_zero, map_get, -List.map_take, -List.map_drop, take_map, drop_map, upd_ne, frOf_set, frOf_get, frOf_getD, encInt, t0, t1, t7, t8, hi, hwi, hpi, hc]
      refine .ret _ _ (Or.inl ⟨_, _, rfl, (by first | rfl | assumption | simp [upd, *]), ?_⟩); exact idxF_hit hi hf hc
  · rintro fr S ⟨f, rfl, t0, t1, t7, t8, rfl, hf⟩
    simp -implicitDefEqProofs [r78_0, r78_1, r78_2, r78_3, r78_4, r78_5, r78_6, r78_7, l78_0, hp, hn, -List.getElem?_map, -getElem?_pos, List.getElem?_cons_zero, map_get, -List.map_take, -List.map_drop, take_map, drop_map, upd_ne, frOf_set, frOf_get, frOf_getD, encInt, t0, t1, t7, t8]
    refine .exit _ _ _ (Or.inr ⟨_, rfl, ?_⟩)
    exact idxF_miss hf
theorem e78 (a : (List Int)) (g : Nat) (caps : List AV) (p : Int → Bool) (hp : ∀ x ∈ a, ∀ (m : Nat) (S : St), evCall T m (evFL T) g (.int .i64 x :: caps) S = some (.bool (p x), S)) (hn : a.length ≤ 9223372036854775807) : evFL T 78 [.ts .imm 1 (a.map encInt), .fn g caps] [] = some (.int .i64 (idxF p a), []) := by
  rw [evFL_at fn78 (by simp)]
  simp -implicitDefEqProofs [c78, r78_0, r78_1, r78_2, r78_3, r78_4, r78_5, r78_6, r78_7, hp, hn, -List.getElem?_map, -getElem?_pos, List.getElem?_cons_zero, map_get, -List.map_take, -List.map_drop, take_map, drop_map, upd_ne, frOf_set, frOf_get, frOf_getD, encInt]
  generalize hr : evCL T 0 (.loop l78_0) _ _ = r
  have h : R78_0 a g caps p  r := by rw [← hr]; exact L78_0 a g caps p hp hn  (0) _ _ (by omega) ⟨_, rfl, (by simp [upd, *]), (by simp [upd, *]), (by simp [upd, *]), (by simp [upd, *]), rfl, by simp⟩
  clear hr
  rcases h with h | h
  · obtain ⟨f0, j, rfl, u0_4, hf0⟩ := h
    simp -implicitDefEqProofs [r78_0, r78_1, r78_2, r78_3, r78_4, r78_5, r78_6, r78_7, hp, hn, -List.getElem?_map, -getElem?_pos, List.getElem?_cons_zero, map_get, -List.map_take, -List.map_drop, take_map, drop_map, upd_ne, frOf_set, frOf_get, frOf_getD, encInt, u0_4, hf0] <;> try omega
  obtain ⟨f0, rfl, hf0⟩ := h
  simp -implicitDefEqProofs [r78_0, r78_1, r78_2, r78_3, r78_4, r78_5, r78_6, r78_7, hp, hn, -List.getElem?_map, -getElem?_pos, List.getElem?_cons_zero, map_get, -List.map_take, -List.map_drop, take_map, drop_map, upd_ne, frOf_set, frOf_get, frOf_getD, encInt, hf0] <;> try omega
-- slices.ContainsFunc[[]int,int]
@[simp] theorem call52 {m : Nat} (args : List AV) (S : St) : evCall T m (evFL T) 52 args S = lendC (evFL T 52) S (lendAll S i52.pes args) := evCall0 fn52 rfl rfl args S
@[simp] theorem callz52 (args : List AV) (S : St) : evCallFz T (evFL T) 52 args S = lendZ (evFL T 52) S i52.res (lendAll S i52.pes args) := evCallFz0 fn52 rfl rfl args S
@[simp] theorem pes52 : i52.pes = [[1], [0]] := rfl
@[simp] theorem body52 : i52.body = c52 := rfl
@[simp] theorem kind52 : i52.kind = 0 := rfl
@[simp] theorem tree52 : i52.tree = false := rfl
@[simp] theorem ntmps52 : i52.ntmps = 9 := rfl
@[simp] theorem results52 : i52.results = [(ResultVar.tmp 4)] := rfl
@[simp] theorem res52 : i52.res = [[0]] := rfl
theorem e52 (a : (List Int)) (g : Nat) (caps : List AV) (p : Int → Bool) (hp : ∀ x ∈ a, ∀ (m : Nat) (S : St), evCall T m (evFL T) g (.int .i64 x :: caps) S = some (.bool (p x), S)) (hn : a.length ≤ 9223372036854775807) (hcaps : ∀ S, mapO (lendPtr S) caps = some caps) : evFL T 52 [.ts .imm 1 (a.map encInt), .fn g caps] [] = some (.bool (a.any p), []) := by
  rw [evFL_at fn52 (by simp)]
  have he := e78 a g caps p hp hn
  all_goals simp -implicitDefEqProofs [c52, r52_0, r52_1, hp, hn, hcaps, call78, callz78, e78, -List.getElem?_map, -getElem?_pos, List.getElem?_cons_zero, map_get, -List.map_take, -List.map_drop, take_map, drop_map, upd_ne, frOf_set, frOf_get, frOf_getD, he, idxF_any]
-- impl.GoodAlgebra$1$1
@[simp] theorem call53 {m : Nat} (args : List AV) (S : St) : evCall T m (evFL T) 53 args S = lendC (evFL T 53) S (lendAll S i53.pes args) := evCall0 fn53 rfl rfl args S
@[simp] theorem callz53 (args : List AV) (S : St) : evCallFz T (evFL T) 53 args S = lendZ (evFL T 53) S i53.res (lendAll S i53.pes args) := evCallFz0 fn53 rfl rfl args S
@[simp] theorem pes53 : i53.pes = [[0], [0]] := rfl
@[simp] theorem body53 : i53.body = c53 := rfl
@[simp] theorem kind53 : i53.kind = 0 := rfl
@[simp] theorem tree53 : i53.tree = false := rfl
@[simp] theorem ntmps53 : i53.ntmps = 9 := rfl
@[simp] theorem results53 : i53.results = [(ResultVar.tmp 3)] := rfl
@[simp] theorem res53 : i53.res = [[0]] := rfl
theorem e53 (x : Int) (w : Int) (ap : List (List Int)) (h1 : 2 ≤ w) (h2 : w ≤ 12) : evFL T 53 [.int .i64 x, .tp .imm 2 [[.int .i64 w, .ts .imm 1 (ap.map (encLInt .imm))]] 0 0] [] = some (.bool (!inR x 0 (w - 1)), []) := by
  rw [evFL_at fn53 (by simp)]
  all_goals simp -implicitDefEqProofs [c53, r53_0, r53_1, h1, h2, call48, callz48, e48, call51, callz51, e51, -List.getElem?_map, -getElem?_pos, List.getElem?_cons_zero, map_get, -List.map_take, -List.map_drop, take_map, drop_map, upd_ne, frOf_set, frOf_get, frOf_getD]
-- impl.GoodAlgebra$1
@[simp] theorem call50 {m : Nat} (args : List AV) (S : St) : evCall T m (evFL T) 50 args S = lendC (evFL T 50) S (lendAll S i50.pes args) := evCall0 fn50 rfl rfl args S
@[simp] theorem callz50 (args : List AV) (S : St) : evCallFz T (evFL T) 50 args S = lendZ (evFL T 50) S i50.res (lendAll S i50.pes args) := evCallFz0 fn50 rfl rfl args S
@[simp] theorem pes50 : i50.pes = [[1], [0]] := rfl
@[simp] theorem body50 : i50.body = c50 := rfl
@[simp] theorem kind50 : i50.kind = 0 := rfl
@[simp] theorem tree50 : i50.tree = false := rfl
@[simp] theorem ntmps50 : i50.ntmps = 24 := rfl
@[simp] theorem results50 : i50.results = [(ResultVar.tmp 3)] := rfl
@[simp] theorem res50 : i50.res = [[0]] := rfl
theorem e50 (r : (List Int)) (w : Int) (ap : List (List Int)) (h0 : r.length ≤ 1048576) (h1 : 2 ≤ w) (h2 : w ≤ 12) : evFL T 50 [.ts .imm 1 (r.map encInt), .tp .imm 2 [[.int .i64 w, .ts .imm 1 (ap.map (encLInt .imm))]] 0 0] [] = some (.bool (!rowB w r), []) := by
  rw [evFL_at fn50 (by simp)]
  obtain ⟨k, rfl⟩ : ∃ k : Nat, w = (k : Int) + 1 := ⟨(w - 1).toNat, by omega⟩
  have he := e52 r 53 [.tp .imm 2 [[.int .i64 ((k : Int) + 1), .ts .imm 1 (ap.map (encLInt .imm))]] 0 0] (fun x => !inR x 0 (((k : Int) + 1) - 1)) (fun x hx m S => by rw [call53]; simp -implicitDefEqProofs only [pes53]; have h9 := e53 x ((k : Int) + 1) ap h1 h2; simp [h9]) (by omega) (fun S => by simp)
  by_cases hl : (r.length : Int) = (k : Int) + 1
  · have hk : k < r.length := by omega
    by_cases hq : nth r k = (k : Int)
    · simp at he
      simp -implicitDefEqProofs [c50, r50_0, r50_1, h0, h1, h2, call51, callz51, e51, call52, callz52, e52, call53, callz53, e53, -List.getElem?_map, -getElem?_pos, List.getElem?_cons_zero, map_get, -List.map_take, -List.map_drop, take_map, drop_map, upd_ne, frOf_set, frOf_get, frOf_getD, encInt, rowB, hl, hk, hq, he, any_neg]
    · simp -implicitDefEqProofs [c50, r50_0, r50_1, h0, h1, h2, call51, callz51, e51, call52, callz52, e52, call53, callz53, e53, -List.getElem?_map, -getElem?_pos, List.getElem?_cons_zero, map_get, -List.map_take, -List.map_drop, take_map, drop_map, upd_ne, frOf_set, frOf_get, frOf_getD, encInt, rowB, hl, hk, hq]
  · simp -implicitDefEqProofs [c50, r50_0, r50_1, h0, h1, h2, call51, callz51, e51, call52, callz52, e52, call53, callz53, e53, -List.getElem?_map, -getElem?_pos, List.getElem?_cons_zero, map_get, -List.map_take, -List.map_drop, take_map, drop_map, upd_ne, frOf_set, frOf_get, frOf_getD, encInt, rowB, hl]
-- impl.GoodAlgebra
@[simp] theorem call15 {m : Nat} (args : List AV) (S : St) : evCall T m (evFL T) 15 args S = lendC (evFL T 15) S (lendAll S i15.pes args) := evCall0 fn15 rfl rfl args S
@[simp] theorem callz15 (args : List AV) (S : St) : evCallFz T (evFL T) 15 args S = lendZ (evFL T 15) S i15.res (lendAll S i15.pes args) := evCallFz0 fn15 rfl rfl args S
@[simp] theorem pes15 : i15.pes = [[0, 1]] := rfl
@[simp] theorem body15 : i15.body = c15 := rfl
@[simp] theorem kind15 : i15.kind = 0 := rfl
@[simp] theorem tree15 : i15.tree = false := rfl
@[simp] theorem ntmps15 : i15.ntmps = 19 := rfl
@[simp] theorem results15 : i15.results = [(ResultVar.tmp 2)] := rfl
@[simp] theorem res15 : i15.res = [[0]] := rfl
theorem e15 (a_weights : Int) (a_apply : (List (List Int))) (ha0 : a_apply.length ≤ 1048576) (ha1 : smsLInt a_apply) : evFL T 15 [.agg [.int .i64 a_weights, .ts .imm 1 (a_apply.map (encLInt .imm))]] [] = some (.bool (algB (⟨a_weights, a_apply⟩ : Algebra)), []) := by
  rw [evFL_at fn15 (by simp)]
  cases hw : inR a_weights 2 12
  · simp -implicitDefEqProofs [c15, r15_0, r15_1, r15_2, r15_3, ha0, ha1, call48, callz48, e48, call49, callz49, e49, call50, callz50, e50, -List.getElem?_map, -getElem?_pos, List.getElem?_cons_zero, map_get, -List.map_take, -List.map_drop, take_map, drop_map, upd_ne, frOf_set, frOf_get, frOf_getD, hw, algB]
  cases hn : inR (a_apply.length : Int) 1 4
  · simp -implicitDefEqProofs [c15, r15_0, r15_1, r15_2, r15_3, ha0, ha1, call48, callz48, e48, call49, callz49, e49, call50, callz50, e50, -List.getElem?_map, -getElem?_pos, List.getElem?_cons_zero, map_get, -List.map_take, -List.map_drop, take_map, drop_map, upd_ne, frOf_set, frOf_get, frOf_getD, hw, hn, algB]
  have hw2 : 2 ≤ a_weights ∧ a_weights ≤ 12 := by simpa [inR] using hw
  obtain ⟨hw3, hw4⟩ := hw2
  have he := e49 a_apply 50 [.tp .imm 2 [[.int .i64 a_weights, .ts .imm 1 (a_apply.map (encLInt .imm))]] 0 0] (fun r => !rowB a_weights r) (fun r hr m S => by simp -implicitDefEqProofs [e50 r a_weights a_apply (ha1 r hr) hw3 hw4]) (by omega) (fun S => by simp)
  simp -implicitDefEqProofs [c15, r15_0, r15_1, r15_2, r15_3, ha0, ha1, call48, callz48, e48, call49, callz49, e49, call50, callz50, e50, -List.getElem?_map, -getElem?_pos, List.getElem?_cons_zero, map_get, -List.map_take, -List.map_drop, take_map, drop_map, upd_ne, frOf_set, frOf_get, frOf_getD, hw, hn, he, any_neg, algB]
-- laws.eqIntS
@[simp] theorem call31 {m : Nat} (args : List AV) (S : St) : evCall T m (evFL T) 31 args S = lendC (evFL T 31) S (lendAll S i31.pes args) := evCall0 fn31 rfl rfl args S
@[simp] theorem callz31 (args : List AV) (S : St) : evCallFz T (evFL T) 31 args S = lendZ (evFL T 31) S i31.res (lendAll S i31.pes args) := evCallFz0 fn31 rfl rfl args S
@[simp] theorem pes31 : i31.pes = [[1], [1]] := rfl
@[simp] theorem body31 : i31.body = c31 := rfl
@[simp] theorem kind31 : i31.kind = 0 := rfl
@[simp] theorem tree31 : i31.tree = false := rfl
@[simp] theorem ntmps31 : i31.ntmps = 26 := rfl
@[simp] theorem results31 : i31.results = [(ResultVar.tmp 4)] := rfl
@[simp] theorem res31 : i31.res = [[0]] := rfl
def I31_0 (a : (List Int))  (i : Nat) (fr : Fr) (S : St) : Prop := ∃ f : Nat → AV, fr = frOf 26 f ∧ f 0 = .ts .imm 1 (a.map encInt) ∧ f 1 = .ts .imm 1 (a.map encInt) ∧ f 5 = .int .i64 i ∧ S = [] ∧ True
def R31_0 (a : (List Int))  (r : Option (Ex × Fr × St)) : Prop := (∃ f : Nat → AV, r = some (.exit 0, frOf 26 f, []) ∧ True)
theorem L31_0 (a : (List Int)) (ha0 : a.length ≤ 1048576)   : ∀ i fr S, i ≤ a.length → I31_0 a  i fr S → R31_0 a  (evCL T 0 (.loop l31_0) fr S) := by
  refine loopQ _ _ _ ?_ ?_
  · rintro i fr S hi ⟨f, rfl, t0, t1, t5, rfl, hf⟩
    have hwi : IntKind.i64.wrap ((i : Int) + 1) = (i : Int) + 1 := wrap64 (by omega) (by omega)
    all_goals simp -implicitDefEqProofs [r31_0, r31_1, r31_2, r31_3, r31_4, r31_5, r31_6, r31_7, r31_8, l31_0, ha0, -List.getElem?_map, -getElem?_pos, List.getElem?_cons_zero, map_get, -List.map_take, -List.map_drop, take_map, drop_map, upd_ne, frOf_set, frOf_get, frOf_getD, encInt, t0, t1, t5, hi, hwi]
    all_goals first | (refine .go _ _ ⟨_, rfl, (by first | rfl | assumption | simp [upd, *]), (by first | rfl | assumption | simp [upd, *]), (by first | rfl | assumption | simp [upd, *]), rfl, ?_⟩; first | trivial | assumption | simp [*]) | (refine .exit _ _ _ ⟨_, rfl, ?_⟩; first | trivial | assumption | simp [*])
  · rintro fr S ⟨f, rfl, t0, t1, t5, rfl, hf⟩
    simp -implicitDefEqProofs [r31_0, r31_1, r31_2, r31_3, r31_4, r31_5, r31_6, r31_7, r31_8, l31_0, ha0, -List.getElem?_map, -getElem?_pos, List.getElem?_cons_zero, map_get, -List.map_take, -List.map_drop, take_map, drop_map, upd_ne, frOf_set, frOf_get, frOf_getD, encInt, t0, t1, t5]
    refine .exit _ _ _ ⟨_, rfl, ?_⟩
    first | trivial | assumption | simp [*]
theorem e31 (a : (List Int)) (ha0 : a.length ≤ 1048576) : evFL T 31 [.ts .imm 1 (a.map encInt), .ts .imm 1 (a.map encInt)] [] = some (.bool true, []) := by
  rw [evFL_at fn31 (by simp)]
  simp -implicitDefEqProofs [c31, r31_0, r31_1, r31_2, r31_3, r31_4, r31_5, r31_6, r31_7, r31_8, ha0, -List.getElem?_map, -getElem?_pos, List.getElem?_cons_zero, map_get, -List.map_take, -List.map_drop, take_map, drop_map, upd_ne, frOf_set, frOf_get, frOf_getD, encInt]
  generalize hr : evCL T 0 (.loop l31_0) _ _ = r
  have h : R31_0 a  r := by rw [← hr]; exact L31_0 a ha0  (0) _ _ (by omega) ⟨_, rfl, (by simp [upd, *]), (by simp [upd, *]), (by simp [upd, *]), rfl, by first | trivial | assumption | simp⟩
  clear hr
  obtain ⟨f0, rfl, hf0⟩ := h
  simp -implicitDefEqProofs [r31_0, r31_1, r31_2, r31_3, r31_4, r31_5, r31_6, r31_7, r31_8, ha0, -List.getElem?_map, -getElem?_pos, List.getElem?_cons_zero, map_get, -List.map_take, -List.map_drop, take_map, drop_map, upd_ne, frOf_set, frOf_get, frOf_getD, encInt, hf0] <;> try omega
-- laws.eqIntSS
@[simp] theorem call54 {m : Nat} (args : List AV) (S : St) : evCall T m (evFL T) 54 args S = lendC (evFL T 54) S (lendAll S i54.pes args) := evCall0 fn54 rfl rfl args S
@[simp] theorem callz54 (args : List AV) (S : St) : evCallFz T (evFL T) 54 args S = lendZ (evFL T 54) S i54.res (lendAll S i54.pes args) := evCallFz0 fn54 rfl rfl args S
@[simp] theorem pes54 : i54.pes = [[1], [1]] := rfl
@[simp] theorem body54 : i54.body = c54 := rfl
@[simp] theorem kind54 : i54.kind = 0 := rfl
@[simp] theorem tree54 : i54.tree = false := rfl
@[simp] theorem ntmps54 : i54.ntmps = 27 := rfl
@[simp] theorem results54 : i54.results = [(ResultVar.tmp 4)] := rfl
@[simp] theorem res54 : i54.res = [[0]] := rfl
def I54_0 (a : (List (List Int)))  (i : Nat) (fr : Fr) (S : St) : Prop := ∃ f : Nat → AV, fr = frOf 27 f ∧ f 0 = .ts .imm 1 (a.map (encLInt .imm)) ∧ f 1 = .ts .imm 1 (a.map (encLInt .imm)) ∧ f 5 = .int .i64 i ∧ S = [] ∧ True
def R54_0 (a : (List (List Int)))  (r : Option (Ex × Fr × St)) : Prop := (∃ f : Nat → AV, r = some (.exit 0, frOf 27 f, []) ∧ True)
theorem L54_0 (a : (List (List Int))) (ha0 : a.length ≤ 1048576) (ha1 : smsLInt a)   : ∀ i fr S, i ≤ a.length → I54_0 a  i fr S → R54_0 a  (evCL T 0 (.loop l54_0) fr S) := by
  refine loopQ _ _ _ ?_ ?_
  · rintro i fr S hi ⟨f, rfl, t0, t1, t5, rfl, hf⟩
    have hwi : IntKind.i64.wrap ((i : Int) + 1) = (i : Int) + 1 := wrap64 (by omega) (by omega)
    have hy := ha1 (nth a i) (nth_mem hi)
    simp only [smLInt] at hy
    have ef := e31 ((nth a i)) hy
    all_goals simp -implicitDefEqProofs [r54_0, r54_1, r54_2, r54_3, r54_4, r54_5, r54_6, r54_7, r54_8, l54_0, ha0, ha1, call31, callz31, e31, -List.getElem?_map, -getElem?_pos, List.getElem?_cons_zero, map_get, -List.map_take, -List.map_drop, take_map, drop_map, upd_ne, frOf_set, frOf_get, frOf_getD, encLInt, t0, t1, t5, hi, hwi, hy, ef]
    all_goals first | (refine .go _ _ ⟨_, rfl, (by first | rfl | assumption | simp [upd, *]), (by first | rfl | assumption | simp [upd, *]), (by first | rfl | assumption | simp [upd, *]), rfl, ?_⟩; first | trivial | assumption | simp [*]) | (refine .exit _ _ _ ⟨_, rfl, ?_⟩; first | trivial | assumption | simp [*])
  · rintro fr S ⟨f, rfl, t0, t1, t5, rfl, hf⟩
    simp -implicitDefEqProofs [r54_0, r54_1, r54_2, r54_3, r54_4, r54_5, r54_6, r54_7, r54_8, l54_0, ha0, ha1, call31, callz31, e31, -List.getElem?_map, -getElem?_pos, List.getElem?_cons_zero, map_get, -List.map_take, -List.map_drop, take_map, drop_map, upd_ne, frOf_set, frOf_get, frOf_getD, encLInt, t0, t1, t5]
    refine .exit _ _ _ ⟨_, rfl, ?_⟩
    first | trivial | assumption | simp [*]
theorem e54 (a : (List (List Int))) (ha0 : a.length ≤ 1048576) (ha1 : smsLInt a) : evFL T 54 [.ts .imm 1 (a.map (encLInt .imm)), .ts .imm 1 (a.map (encLInt .imm))] [] = some (.bool true, []) := by
  rw [evFL_at fn54 (by simp)]
  simp -implicitDefEqProofs [c54, r54_0, r54_1, r54_2, r54_3, r54_4, r54_5, r54_6, r54_7, r54_8, ha0, ha1, call31, callz31, e31, -List.getElem?_map, -getElem?_pos, List.getElem?_cons_zero, map_get, -List.map_take, -List.map_drop, take_map, drop_map, upd_ne, frOf_set, frOf_get, frOf_getD, encLInt]
  generalize hr : evCL T 0 (.loop l54_0) _ _ = r
  have h : R54_0 a  r := by rw [← hr]; exact L54_0 a ha0 ha1  (0) _ _ (by omega) ⟨_, rfl, (by simp [upd, *]), (by simp [upd, *]), (by simp [upd, *]), rfl, by first | trivial | assumption | simp⟩
  clear hr
  obtain ⟨f0, rfl, hf0⟩ := h
  simp -implicitDefEqProofs [r54_0, r54_1, r54_2, r54_3, r54_4, r54_5, r54_6, r54_7, r54_8, ha0, ha1, call31, callz31, e31, -List.getElem?_map, -getElem?_pos, List.getElem?_cons_zero, map_get, -List.map_take, -List.map_drop, take_map, drop_map, upd_ne, frOf_set, frOf_get, frOf_getD, encLInt, hf0] <;> try omega
-- laws.eqAlgebra
@[simp] theorem call16 {m : Nat} (args : List AV) (S : St) : evCall T m (evFL T) 16 args S = lendC (evFL T 16) S (lendAll S i16.pes args) := evCall0 fn16 rfl rfl args S
@[simp] theorem callz16 (args : List AV) (S : St) : evCallFz T (evFL T) 16 args S = lendZ (evFL T 16) S i16.res (lendAll S i16.pes args) := evCallFz0 fn16 rfl rfl args S
@[simp] theorem pes16 : i16.pes = [[0, 1], [0, 1]] := rfl
@[simp] theorem body16 : i16.body = c16 := rfl
@[simp] theorem kind16 : i16.kind = 0 := rfl
@[simp] theorem tree16 : i16.tree = false := rfl
@[simp] theorem ntmps16 : i16.ntmps = 16 := rfl
@[simp] theorem results16 : i16.results = [(ResultVar.tmp 4)] := rfl
@[simp] theorem res16 : i16.res = [[0]] := rfl
theorem e16 (a_weights : Int) (a_apply : (List (List Int))) (ha0 : a_apply.length ≤ 1048576) (ha1 : smsLInt a_apply) : evFL T 16 [.agg [.int .i64 a_weights, .ts .imm 1 (a_apply.map (encLInt .imm))], .agg [.int .i64 a_weights, .ts .imm 1 (a_apply.map (encLInt .imm))]] [] = some (.bool true, []) := by
  rw [evFL_at fn16 (by simp)]
  have ef0 := e54 a_apply ha0 ha1
  all_goals simp -implicitDefEqProofs [c16, r16_0, r16_1, r16_2, r16_3, r16_4, r16_5, ha0, ha1, call54, callz54, e54, -List.getElem?_map, -getElem?_pos, List.getElem?_cons_zero, map_get, -List.map_take, -List.map_drop, take_map, drop_map, upd_ne, frOf_set, frOf_get, frOf_getD, ef0]
end Go.Pi.Ytbohlpligkfkiaa.GoodAlgebra
