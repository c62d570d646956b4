/- What functions of the program answer, and that the law answers true at every input; no condition -/
import Derived.Test.YtbohlpligkfkiaaWeightOfTabWeightOf
import Derived.Test.YtbohlpligkfkiaaPiC
set_option linter.all false
/- Functions of the program, by equations. -/
namespace Go.Pi.Ytbohlpligkfkiaa.WeightOf
open Go Go.Proofs Go.Pi 
set_option maxRecDepth 100000
set_option linter.unusedSimpArgs false
set_option linter.unusedVariables false
def encInt (x : Int) : List AV := [.int .i64 x]
@[simp] theorem own_encInt (x : Int) : ownOnlyL (encInt x) = true := by simp [encInt, ownOnlyL, ownOnly]
@[simp] theorem setQL_encInt (q : Ql) (x : Int) : setQL q (encInt x) = encInt x := rfl
def encLInt (q : Ql) (x : (List Int)) : List AV := [.ts q 1 (x.map encInt)]
@[simp] theorem own_encLInt (x : (List Int)) : ownOnlyL (encLInt .own x) = true := by simp [encLInt, ownOnlyL, ownOnly]
@[simp] theorem setQL_encLInt (q q1 : Ql) (x : (List Int)) : setQL q (encLInt q1 x) = encLInt q x := by simp [encLInt, Function.comp_def]
def smLInt (x : (List Int)) : Prop := (x.length ≤ 1048576)
def smsLInt (x : List (List Int)) : Prop := ∀ y ∈ x, smLInt y
def wfLInt (x : (List Int)) : Prop := (x.length ≤ 9223372036854775807)
def wfsLInt (x : List (List Int)) : Prop := ∀ y ∈ x, wfLInt y
def szLInt (x : (List Int)) (l : Int) : Int := szL x.length (l)
theorem szLInt_le (x : (List Int)) (l : Int) (h : 0 ≤ l) : szLInt x l ≤ l ∧ -1 ≤ szLInt x l ∧ (0 ≤ szLInt x l → l ≤ 1048576 → smLInt x) := szL_le x.length l h
def encLLInt (q : Ql) (x : (List (List Int))) : List AV := [.ts q 1 (x.map (encLInt q))]
@[simp] theorem own_encLLInt (x : (List (List Int))) : ownOnlyL (encLLInt .own x) = true := by simp [encLLInt, ownOnlyL, ownOnly]
@[simp] theorem setQL_encLLInt (q q1 : Ql) (x : (List (List Int))) : setQL q (encLLInt q1 x) = encLLInt q x := by simp [encLLInt, Function.comp_def]
def smLLInt (x : (List (List Int))) : Prop := (x.length ≤ 1048576) ∧ (smsLInt x)
def smsLLInt (x : List (List (List Int))) : Prop := ∀ y ∈ x, smLLInt y
def wfLLInt (x : (List (List Int))) : Prop := (x.length ≤ 9223372036854775807) ∧ (wfsLInt x)
def wfsLLInt (x : List (List (List Int))) : Prop := ∀ y ∈ x, wfLLInt y
def szLLInt (x : (List (List Int))) (l : Int) : Int := szS szLInt x (l)
theorem szLLInt_le (x : (List (List Int))) (l : Int) (h : 0 ≤ l) : szLLInt x l ≤ l ∧ -1 ≤ szLLInt x l ∧ (0 ≤ szLLInt x l → l ≤ 1048576 → smLLInt x) := szS_le (fun y _ l h => szLInt_le y l h) l h
structure Algebra where
  weights : Int
  apply : (List (List Int))
  deriving Inhabited
@[simp] theorem Algebra.eta (x : Algebra) : (⟨x.weights, x.apply⟩ : Algebra) = x := rfl
def encAlgebra (q : Ql) (x : Algebra) : List AV := [.int .i64 x.weights, .ts q 1 (x.apply.map (encLInt q))]
@[simp] theorem own_encAlgebra (x : Algebra) : ownOnlyL (encAlgebra .own x) = true := by simp [encAlgebra, ownOnlyL, ownOnly]
@[simp] theorem setQL_encAlgebra (q q1 : Ql) (x : Algebra) : setQL q (encAlgebra q1 x) = encAlgebra q x := by simp [encAlgebra, Function.comp_def]
def smAlgebra (x : Algebra) : Prop := (x.apply.length ≤ 1048576) ∧ (smsLInt x.apply)
def smsAlgebra (x : List Algebra) : Prop := ∀ y ∈ x, smAlgebra y
def wfAlgebra (x : Algebra) : Prop := (x.apply.length ≤ 9223372036854775807) ∧ (wfsLInt x.apply)
def wfsAlgebra (x : List Algebra) : Prop := ∀ y ∈ x, wfAlgebra y
def szAlgebra (x : Algebra) (l : Int) : Int := szThen (szLLInt x.apply l) fun l => l
theorem szAlgebra_le (x : Algebra) (l : Int) (h : 0 ≤ l) : szAlgebra x l ≤ l ∧ -1 ≤ szAlgebra x l ∧ (0 ≤ szAlgebra x l → l ≤ 1048576 → smAlgebra x) := by
  simp only [szAlgebra, szThen]
  have h0 := szLLInt_le x.apply (l) (by omega)
  by_cases hc0 : szLLInt x.apply (l) < 0
  · simp only [hc0, if_true, if_false]; exact ⟨by omega, by omega, fun h => by omega⟩
  simp only [hc0, if_false]
  refine ⟨by omega, by omega, fun h9 h8 => ?_⟩
  have k0 := h0.2.2 (by omega) (by omega)
  simp only [smAlgebra, smLLInt] at *
  refine ⟨?_, ?_⟩ <;> first | omega | assumption | simp_all
structure Arc where
  from_ : Int
  to : Int
  label : Int
  deriving Inhabited
@[simp] theorem Arc.eta (x : Arc) : (⟨x.from_, x.to, x.label⟩ : Arc) = x := rfl
def encArc (x : Arc) : List AV := [.int .i64 x.from_, .int .i64 x.to, .int .i64 x.label]
@[simp] theorem own_encArc (x : Arc) : ownOnlyL (encArc x) = true := by simp [encArc, ownOnlyL, ownOnly]
@[simp] theorem setQL_encArc (q : Ql) (x : Arc) : setQL q (encArc x) = encArc x := rfl
def encLArc (q : Ql) (x : (List Arc)) : List AV := [.ts q 3 (x.map encArc)]
@[simp] theorem own_encLArc (x : (List Arc)) : ownOnlyL (encLArc .own x) = true := by simp [encLArc, ownOnlyL, ownOnly]
@[simp] theorem setQL_encLArc (q q1 : Ql) (x : (List Arc)) : setQL q (encLArc q1 x) = encLArc q x := by simp [encLArc, Function.comp_def]
def smLArc (x : (List Arc)) : Prop := (x.length ≤ 1048576)
def smsLArc (x : List (List Arc)) : Prop := ∀ y ∈ x, smLArc y
def wfLArc (x : (List Arc)) : Prop := (x.length ≤ 9223372036854775807)
def wfsLArc (x : List (List Arc)) : Prop := ∀ y ∈ x, wfLArc y
def szLArc (x : (List Arc)) (l : Int) : Int := szL x.length (l)
theorem szLArc_le (x : (List Arc)) (l : Int) (h : 0 ≤ l) : szLArc x l ≤ l ∧ -1 ≤ szLArc x l ∧ (0 ≤ szLArc x l → l ≤ 1048576 → smLArc x) := szL_le x.length l h
-- laws.szIntS
@[simp] theorem call76 {m : Nat} (args : List AV) (S : St) : evCall T m (evFL T) 76 args S = lendC (evFL T 76) S (lendAll S i76.pes args) := evCall0 fn76 rfl rfl args S
@[simp] theorem callz76 (args : List AV) (S : St) : evCallFz T (evFL T) 76 args S = lendZ (evFL T 76) S i76.res (lendAll S i76.pes args) := evCallFz0 fn76 rfl rfl args S
@[simp] theorem pes76 : i76.pes = [[1], [0]] := rfl
@[simp] theorem body76 : i76.body = c76 := rfl
@[simp] theorem kind76 : i76.kind = 0 := rfl
@[simp] theorem tree76 : i76.tree = false := rfl
@[simp] theorem ntmps76 : i76.ntmps = 12 := rfl
@[simp] theorem results76 : i76.results = [(ResultVar.tmp 4)] := rfl
@[simp] theorem res76 : i76.res = [[0]] := rfl
theorem e76 (a : (List Int)) (l : Int) (hw0 : a.length ≤ 9223372036854775807) (hl0 : 0 ≤ l) (hl1 : l ≤ 1048576) : evFL T 76 [.ts .imm 1 (a.map encInt), .int .i64 l] [] = some (.int .i64 (szLInt a l), []) := by
  rw [evFL_at fn76 (by simp)]
  have hn : IntKind.i64.wrap (l - (a.length : Int)) = l - (a.length : Int) := wrap64 (by omega) (by omega)
  by_cases hc0 : l - (a.length : Int) < 0
  all_goals simp -implicitDefEqProofs [c76, r76_0, r76_1, r76_2, r76_3, r76_4, hw0, hl0, hl1, -List.getElem?_map, -getElem?_pos, List.getElem?_cons_zero, map_get, -List.map_take, -List.map_drop, take_map, drop_map, upd_ne, frOf_set, frOf_get, frOf_getD, hn, szL, szLInt, hc0]
-- laws.szIntSS
@[simp] theorem call44 {m : Nat} (args : List AV) (S : St) : evCall T m (evFL T) 44 args S = lendC (evFL T 44) S (lendAll S i44.pes args) := evCall0 fn44 rfl rfl args S
@[simp] theorem callz44 (args : List AV) (S : St) : evCallFz T (evFL T) 44 args S = lendZ (evFL T 44) S i44.res (lendAll S i44.pes args) := evCallFz0 fn44 rfl rfl args S
@[simp] theorem pes44 : i44.pes = [[1], [0]] := rfl
@[simp] theorem body44 : i44.body = c44 := rfl
@[simp] theorem kind44 : i44.kind = 0 := rfl
@[simp] theorem tree44 : i44.tree = false := rfl
@[simp] theorem ntmps44 : i44.ntmps = 27 := rfl
@[simp] theorem results44 : i44.results = [(ResultVar.tmp 4)] := rfl
@[simp] theorem res44 : i44.res = [[0]] := rfl
def I44_0 (a : (List (List Int))) (l : Int)  (i : Nat) (fr : Fr) (S : St) : Prop := ∃ f : Nat → AV, ∃ l1 : Int, fr = frOf 27 f ∧ f 0 = .ts .imm 1 (a.map (encLInt .imm)) ∧ f 1 = .int .i64 l1 ∧ f 5 = .int .i64 i ∧ S = [] ∧ 0 ≤ l1 ∧ l1 ≤ 1048576 ∧ szGo szLInt (a.drop i) l1 = szGo szLInt a (l - (a.length : Int))
def R44_0 (a : (List (List Int))) (l : Int)  (r : Option (Ex × Fr × St)) : Prop := (∃ f : Nat → AV, r = some (.ret, frOf 27 f, []) ∧ f 4 = .int .i64 (-1) ∧ szGo szLInt a (l - (a.length : Int)) = -1) ∨ (∃ f : Nat → AV, ∃ l2 : Int, r = some (.exit 0, frOf 27 f, []) ∧ f 1 = .int .i64 l2 ∧ szGo szLInt a (l - (a.length : Int)) = l2)
theorem L44_0 (a : (List (List Int))) (l : Int) (hw0 : a.length ≤ 9223372036854775807) (hw1 : wfsLInt a) (hl0 : 0 ≤ l) (hl1 : l ≤ 1048576)   : ∀ i fr S, i ≤ a.length → I44_0 a l  i fr S → R44_0 a l  (evCL T 0 (.loop l44_0) fr S) := by
  refine loopQ _ _ _ ?_ ?_
  · rintro i fr S hi ⟨f, l1, rfl, t0, t1, t5, rfl, hf⟩
    have hn : IntKind.i64.wrap (l - (a.length : Int)) = l - (a.length : Int) := wrap64 (by omega) (by omega)
    have hwi : IntKind.i64.wrap ((i : Int) + 1) = (i : Int) + 1 := wrap64 (by omega) (by omega)
    have hi9 : True := trivial
    obtain ⟨hk0, hk1, hg⟩ := hf
    rw [drop_nth hi] at hg
    have hy := hw1 (nth a i) (nth_mem hi)
    simp only [wfLInt] at hy
    have ef := e76 ((nth a i)) l1 hy hk0 hk1
    have hle := szLInt_le (nth a i) l1 hk0
    by_cases hc : szLInt (nth a i) l1 < 0
    · simp -implicitDefEqProofs [r44_0, r44_1, r44_2, r44_3, r44_4, r44_5, r44_6, r44_7, r44_8, r44_9, r44_10, l44_0, hw0, hw1, hl0, hl1, call76, callz76, e76, -List.getElem?_map, -getElem?_pos, List.getElem?_cons_zero, map_get, -List.map_take, -List.map_drop, take_map, drop_map, upd_ne, frOf_set, frOf_get, frOf_getD, hn, encLInt, szLLInt, t0, t1, t5, hi, hwi, hk0, hk1, hc, ef, hy]
      refine .ret _ _ (Or.inl ⟨_, rfl, (by first | rfl | assumption | simp [upd, *]), ?_⟩); simp [szGo, hc] at hg; exact hg.symm
    · simp -implicitDefEqProofs [r44_0, r44_1, r44_2, r44_3, r44_4, r44_5, r44_6, r44_7, r44_8, r44_9, r44_10, l44_0, hw0, hw1, hl0, hl1, call76, callz76, e76, -List.getElem?_map, -getElem?_pos, List.getElem?_cons_zero, map_get, -List.map_take, -List.map_drop, take_map, drop_map, upd_ne, frOf_set, frOf_get, frOf_getD, hn, encLInt, szLLInt, t0, t1, t5, hi, hwi, hk0, hk1, hc, ef, hy]
      refine .go _ _ ⟨_, _, rfl, (by first | rfl | assumption | simp [upd, *]), (by first | rfl | assumption | simp [upd, *]), (by first | rfl | assumption | simp [upd, *]), rfl, ?_⟩; simp only [szGo, hc, if_false] at hg; exact ⟨by omega, by omega, hg⟩
  · rintro fr S ⟨f, l1, rfl, t0, t1, t5, rfl, hf⟩
    have hn : IntKind.i64.wrap (l - (a.length : Int)) = l - (a.length : Int) := wrap64 (by omega) (by omega)
    simp -implicitDefEqProofs [r44_0, r44_1, r44_2, r44_3, r44_4, r44_5, r44_6, r44_7, r44_8, r44_9, r44_10, l44_0, hw0, hw1, hl0, hl1, call76, callz76, e76, -List.getElem?_map, -getElem?_pos, List.getElem?_cons_zero, map_get, -List.map_take, -List.map_drop, take_map, drop_map, upd_ne, frOf_set, frOf_get, frOf_getD, hn, encLInt, szLLInt, t0, t1, t5]
    refine .exit _ _ _ (Or.inr ⟨_, _, rfl, (by first | rfl | assumption | simp [upd, *]), ?_⟩)
    simp [szGo] at hf; exact hf.2.2.symm
theorem e44 (a : (List (List Int))) (l : Int) (hw0 : a.length ≤ 9223372036854775807) (hw1 : wfsLInt a) (hl0 : 0 ≤ l) (hl1 : l ≤ 1048576) : evFL T 44 [.ts .imm 1 (a.map (encLInt .imm)), .int .i64 l] [] = some (.int .i64 (szLLInt a l), []) := by
  rw [evFL_at fn44 (by simp)]
  have hn : IntKind.i64.wrap (l - (a.length : Int)) = l - (a.length : Int) := wrap64 (by omega) (by omega)
  by_cases hc : l - (a.length : Int) < 0
  · simp -implicitDefEqProofs [c44, r44_0, r44_1, r44_2, r44_3, r44_4, r44_5, r44_6, r44_7, r44_8, r44_9, r44_10, hw0, hw1, hl0, hl1, call76, callz76, e76, -List.getElem?_map, -getElem?_pos, List.getElem?_cons_zero, map_get, -List.map_take, -List.map_drop, take_map, drop_map, upd_ne, frOf_set, frOf_get, frOf_getD, hn, encLInt, szLLInt, hc, szS]
  simp -implicitDefEqProofs [c44, r44_0, r44_1, r44_2, r44_3, r44_4, r44_5, r44_6, r44_7, r44_8, r44_9, r44_10, hw0, hw1, hl0, hl1, call76, callz76, e76, -List.getElem?_map, -getElem?_pos, List.getElem?_cons_zero, map_get, -List.map_take, -List.map_drop, take_map, drop_map, upd_ne, frOf_set, frOf_get, frOf_getD, hn, encLInt, szLLInt, hc]
  generalize hr : evCL T 0 (.loop l44_0) _ _ = r
  have h : R44_0 a l  r := by rw [← hr]; exact L44_0 a l hw0 hw1 hl0 hl1  (0) _ _ (by omega) ⟨_, (l - (a.length : Int)), rfl, (by simp [upd, *]), (by simp [upd, *]), (by simp [upd, *]), rfl, ⟨by omega, by omega, rfl⟩⟩
  clear hr
  rcases h with h | h
  · obtain ⟨f0, rfl, u0_4, hf0⟩ := h
    simp -implicitDefEqProofs [r44_0, r44_1, r44_2, r44_3, r44_4, r44_5, r44_6, r44_7, r44_8, r44_9, r44_10, hw0, hw1, hl0, hl1, call76, callz76, e76, -List.getElem?_map, -getElem?_pos, List.getElem?_cons_zero, map_get, -List.map_take, -List.map_drop, take_map, drop_map, upd_ne, frOf_set, frOf_get, frOf_getD, hn, encLInt, szLLInt, u0_4, hf0, hc, szS]
  obtain ⟨f0, l2, rfl, u0_1, hf0⟩ := h
  simp -implicitDefEqProofs [r44_0, r44_1, r44_2, r44_3, r44_4, r44_5, r44_6, r44_7, r44_8, r44_9, r44_10, hw0, hw1, hl0, hl1, call76, callz76, e76, -List.getElem?_map, -getElem?_pos, List.getElem?_cons_zero, map_get, -List.map_take, -List.map_drop, take_map, drop_map, upd_ne, frOf_set, frOf_get, frOf_getD, hn, encLInt, szLLInt, u0_1, hf0, hc, szS]
-- laws.szAlgebra
@[simp] theorem call12 {m : Nat} (args : List AV) (S : St) : evCall T m (evFL T) 12 args S = lendC (evFL T 12) S (lendAll S i12.pes args) := evCall0 fn12 rfl rfl args S
@[simp] theorem callz12 (args : List AV) (S : St) : evCallFz T (evFL T) 12 args S = lendZ (evFL T 12) S i12.res (lendAll S i12.pes args) := evCallFz0 fn12 rfl rfl args S
@[simp] theorem pes12 : i12.pes = [[0, 1], [0]] := rfl
@[simp] theorem body12 : i12.body = c12 := rfl
@[simp] theorem kind12 : i12.kind = 0 := rfl
@[simp] theorem tree12 : i12.tree = false := rfl
@[simp] theorem ntmps12 : i12.ntmps = 12 := rfl
@[simp] theorem results12 : i12.results = [(ResultVar.tmp 4)] := rfl
@[simp] theorem res12 : i12.res = [[0]] := rfl
theorem e12 (a_weights : Int) (a_apply : (List (List Int))) (l : Int) (hw0 : a_apply.length ≤ 9223372036854775807) (hw1 : wfsLInt a_apply) (hl0 : 0 ≤ l) (hl1 : l ≤ 1048576) : evFL T 12 [.agg [.int .i64 a_weights, .ts .imm 1 (a_apply.map (encLInt .imm))], .int .i64 l] [] = some (.int .i64 (szAlgebra (⟨a_weights, a_apply⟩ : Algebra) l), []) := by
  rw [evFL_at fn12 (by simp)]
  have hle0 := szLLInt_le (a_apply : (List (List Int))) (l) (by omega)
  have ef0 := e44 a_apply (l) hw0 hw1 (by omega) (by omega)
  by_cases hc0 : szLLInt (a_apply : (List (List Int))) (l) < 0
  · simp -implicitDefEqProofs [c12, r12_0, r12_1, r12_2, r12_3, r12_4, hw0, hw1, hl0, hl1, call44, callz44, e44, -List.getElem?_map, -getElem?_pos, List.getElem?_cons_zero, map_get, -List.map_take, -List.map_drop, take_map, drop_map, upd_ne, frOf_set, frOf_get, frOf_getD, szAlgebra, szThen, ef0, hc0]
  have hz0 : 0 ≤ szLLInt (a_apply : (List (List Int))) (l) := by omega
  have hu0 : szLLInt (a_apply : (List (List Int))) (l) ≤ 1048576 := by omega
  simp -implicitDefEqProofs [c12, r12_0, r12_1, r12_2, r12_3, r12_4, hw0, hw1, hl0, hl1, call44, callz44, e44, -List.getElem?_map, -getElem?_pos, List.getElem?_cons_zero, map_get, -List.map_take, -List.map_drop, take_map, drop_map, upd_ne, frOf_set, frOf_get, frOf_getD, szAlgebra, szThen, hc0, hz0, hu0, ef0]
theorem fset28 {a : (List Int)} {i : Nat} (h : i < a.length) : (filled encInt [.int .i64 0] a i).set i [.int .i64 (nth a i)] = filled encInt [.int .i64 0] a (i + 1) := filled_set h
-- laws.toIntS
@[simp] theorem call28 {m : Nat} (args : List AV) (S : St) : evCall T m (evFL T) 28 args S = lendC (evFL T 28) S (lendAll S i28.pes args) := evCall0 fn28 rfl rfl args S
@[simp] theorem callz28 (args : List AV) (S : St) : evCallFz T (evFL T) 28 args S = lendZ (evFL T 28) S i28.res (lendAll S i28.pes args) := evCallFz0 fn28 rfl rfl args S
@[simp] theorem pes28 : i28.pes = [[1]] := rfl
@[simp] theorem body28 : i28.body = c28 := rfl
@[simp] theorem kind28 : i28.kind = 0 := rfl
@[simp] theorem tree28 : i28.tree = false := rfl
@[simp] theorem ntmps28 : i28.ntmps = 22 := rfl
@[simp] theorem results28 : i28.results = [(ResultVar.tmp 2)] := rfl
@[simp] theorem res28 : i28.res = [[1]] := rfl
def I28_0 (a : (List Int))  (i : Nat) (fr : Fr) (S : St) : Prop := ∃ f : Nat → AV, fr = frOf 22 f ∧ f 0 = .ts .imm 1 (a.map encInt) ∧ f 3 = .sl 0 0 a.length ∧ f 4 = .int .i64 i ∧ S = [some ⟨.arr, 1, filled encInt [.int .i64 0] a i⟩] ∧ True
def R28_0 (a : (List Int))  (r : Option (Ex × Fr × St)) : Prop := (∃ f : Nat → AV, r = some (.exit 0, frOf 22 f, [some ⟨.arr, 1, filled encInt [.int .i64 0] a a.length⟩]) ∧ f 3 = .sl 0 0 a.length ∧ True)
theorem L28_0 (a : (List Int)) (ha0 : a.length ≤ 1048576)   : ∀ i fr S, i ≤ a.length → I28_0 a  i fr S → R28_0 a  (evCL T 0 (.loop l28_0) fr S) := by
  refine loopQ _ _ _ ?_ ?_
  · rintro i fr S hi ⟨f, rfl, t0, t3, t4, rfl, hf⟩
    have hm : (a.length : Int) ≤ 4294967296 := by omega
    have hm1 : a.length ≤ 4294967296 := by omega
    have hwi : IntKind.i64.wrap ((i : Int) + 1) = (i : Int) + 1 := wrap64 (by omega) (by omega)
    all_goals simp -implicitDefEqProofs [r28_0, r28_1, r28_2, r28_3, r28_4, r28_5, r28_6, l28_0, ha0, -List.getElem?_map, -getElem?_pos, List.getElem?_cons_zero, map_get, -List.map_take, -List.map_drop, take_map, drop_map, upd_ne, frOf_set, frOf_get, frOf_getD, encInt, hm, hm1, fset28, filled_get, t0, t3, t4, hi, hwi]
    all_goals first | (refine .go _ _ ⟨_, rfl, (by first | rfl | assumption | simp [upd, *]), (by first | rfl | assumption | simp [upd, *]), (by first | rfl | assumption | simp [upd, *]), rfl, ?_⟩; first | trivial | assumption | simp [*]) | (refine .exit _ _ _ ⟨_, rfl, (by first | rfl | assumption | simp [upd, *]), ?_⟩; first | trivial | assumption | simp [*])
  · rintro fr S ⟨f, rfl, t0, t3, t4, rfl, hf⟩
    have hm : (a.length : Int) ≤ 4294967296 := by omega
    have hm1 : a.length ≤ 4294967296 := by omega
    simp -implicitDefEqProofs [r28_0, r28_1, r28_2, r28_3, r28_4, r28_5, r28_6, l28_0, ha0, -List.getElem?_map, -getElem?_pos, List.getElem?_cons_zero, map_get, -List.map_take, -List.map_drop, take_map, drop_map, upd_ne, frOf_set, frOf_get, frOf_getD, encInt, hm, hm1, fset28, filled_get, t0, t3, t4]
    refine .exit _ _ _ ⟨_, rfl, (by first | rfl | assumption | simp [upd, *]), ?_⟩
    first | trivial | assumption | simp [*]
theorem e28 (a : (List Int)) (ha0 : a.length ≤ 1048576) : evFL T 28 [.ts .imm 1 (a.map encInt)] [] = some (.sl 0 0 a.length, [some ⟨.arr, 1, a.map encInt⟩]) := by
  rw [evFL_at fn28 (by simp)]
  have hm : (a.length : Int) ≤ 4294967296 := by omega
  have hm1 : a.length ≤ 4294967296 := by omega
  simp -implicitDefEqProofs [c28, r28_0, r28_1, r28_2, r28_3, r28_4, r28_5, r28_6, ha0, -List.getElem?_map, -getElem?_pos, List.getElem?_cons_zero, map_get, -List.map_take, -List.map_drop, take_map, drop_map, upd_ne, frOf_set, frOf_get, frOf_getD, encInt, hm, hm1]
  generalize hr : evCL T 0 (.loop l28_0) _ _ = r
  have h : R28_0 a  r := by rw [← hr]; exact L28_0 a ha0  (0) _ _ (by omega) ⟨_, rfl, (by simp [upd, *]), (by simp [upd, *]), (by simp [upd, *]), by simp [← filled_zero], by first | trivial | assumption | simp⟩
  clear hr
  obtain ⟨f0, rfl, u0_3, hf0⟩ := h
  simp -implicitDefEqProofs [r28_0, r28_1, r28_2, r28_3, r28_4, r28_5, r28_6, ha0, -List.getElem?_map, -getElem?_pos, List.getElem?_cons_zero, map_get, -List.map_take, -List.map_drop, take_map, drop_map, upd_ne, frOf_set, frOf_get, frOf_getD, encInt, hm, hm1, u0_3, hf0, filled_end]
theorem fset47 {a : (List (List Int))} {i : Nat} (h : i < a.length) : (filled (encLInt .own) [.ts .own 1 []] a i).set i [.ts .own 1 ((nth a i).map encInt)] = filled (encLInt .own) [.ts .own 1 []] a (i + 1) := filled_set h
-- laws.toIntSS
@[simp] theorem call47 {m : Nat} (args : List AV) (S : St) : evCall T m (evFL T) 47 args S = lendC (evFL T 47) S (lendAll S i47.pes args) := evCall0 fn47 rfl rfl args S
@[simp] theorem callz47 (args : List AV) (S : St) : evCallFz T (evFL T) 47 args S = lendZ (evFL T 47) S i47.res (lendAll S i47.pes args) := evCallFz0 fn47 rfl rfl args S
@[simp] theorem pes47 : i47.pes = [[1]] := rfl
@[simp] theorem body47 : i47.body = c47 := rfl
@[simp] theorem kind47 : i47.kind = 0 := rfl
@[simp] theorem tree47 : i47.tree = false := rfl
@[simp] theorem ntmps47 : i47.ntmps = 23 := rfl
@[simp] theorem results47 : i47.results = [(ResultVar.tmp 2)] := rfl
@[simp] theorem res47 : i47.res = [[1]] := rfl
def I47_0 (a : (List (List Int)))  (i : Nat) (fr : Fr) (S : St) : Prop := ∃ f : Nat → AV, ∃ G : St, fr = frOf 23 f ∧ f 0 = .ts .imm 1 (a.map (encLInt .imm)) ∧ f 3 = .sl 0 0 a.length ∧ f 4 = .int .i64 i ∧ S = some ⟨.arr, 1, filled (encLInt .own) [.ts .own 1 []] a i⟩ :: G ∧ True
def R47_0 (a : (List (List Int)))  (r : Option (Ex × Fr × St)) : Prop := (∃ f : Nat → AV, ∃ G : St, r = some (.exit 0, frOf 23 f, some ⟨.arr, 1, filled (encLInt .own) [.ts .own 1 []] a a.length⟩ :: G) ∧ f 3 = .sl 0 0 a.length ∧ True)
theorem L47_0 (a : (List (List Int))) (ha0 : a.length ≤ 1048576) (ha1 : smsLInt a)   : ∀ i fr S, i ≤ a.length → I47_0 a  i fr S → R47_0 a  (evCL T 0 (.loop l47_0) fr S) := by
  refine loopQ _ _ _ ?_ ?_
  · rintro i fr S hi ⟨f, G, rfl, t0, t3, t4, rfl, hf⟩
    have hm : (a.length : Int) ≤ 4294967296 := by omega
    have hm1 : a.length ≤ 4294967296 := by omega
    have hwi : IntKind.i64.wrap ((i : Int) + 1) = (i : Int) + 1 := wrap64 (by omega) (by omega)
    have hy := ha1 (nth a i) (nth_mem hi)
    simp only [smLInt] at hy
    have ef := e28 ((nth a i)) hy
    all_goals simp -implicitDefEqProofs [r47_0, r47_1, r47_2, r47_3, r47_4, r47_5, r47_6, l47_0, ha0, ha1, call28, callz28, e28, -List.getElem?_map, -getElem?_pos, List.getElem?_cons_zero, map_get, -List.map_take, -List.map_drop, take_map, drop_map, upd_ne, frOf_set, frOf_get, frOf_getD, encLInt, hm, hm1, fset47, filled_get, t0, t3, t4, hi, hwi, hy, ef]
    all_goals first | (refine .go _ _ ⟨_, _, rfl, (by first | rfl | assumption | simp [upd, *]), (by first | rfl | assumption | simp [upd, *]), (by first | rfl | assumption | simp [upd, *]), rfl, ?_⟩; first | trivial | assumption | simp [*]) | (refine .exit _ _ _ ⟨_, _, rfl, (by first | rfl | assumption | simp [upd, *]), ?_⟩; first | trivial | assumption | simp [*])
  · rintro fr S ⟨f, G, rfl, t0, t3, t4, rfl, hf⟩
    have hm : (a.length : Int) ≤ 4294967296 := by omega
    have hm1 : a.length ≤ 4294967296 := by omega
    simp -implicitDefEqProofs [r47_0, r47_1, r47_2, r47_3, r47_4, r47_5, r47_6, l47_0, ha0, ha1, call28, callz28, e28, -List.getElem?_map, -getElem?_pos, List.getElem?_cons_zero, map_get, -List.map_take, -List.map_drop, take_map, drop_map, upd_ne, frOf_set, frOf_get, frOf_getD, encLInt, hm, hm1, fset47, filled_get, t0, t3, t4]
    refine .exit _ _ _ ⟨_, _, rfl, (by first | rfl | assumption | simp [upd, *]), ?_⟩
    first | trivial | assumption | simp [*]
theorem e47 (a : (List (List Int))) (ha0 : a.length ≤ 1048576) (ha1 : smsLInt a) : evFL T 47 [.ts .imm 1 (a.map (encLInt .imm))] [] = some (.sl 0 0 a.length, [some ⟨.arr, 1, a.map (encLInt .own)⟩]) := by
  rw [evFL_at fn47 (by simp)]
  have hm : (a.length : Int) ≤ 4294967296 := by omega
  have hm1 : a.length ≤ 4294967296 := by omega
  simp -implicitDefEqProofs [c47, r47_0, r47_1, r47_2, r47_3, r47_4, r47_5, r47_6, ha0, ha1, call28, callz28, e28, -List.getElem?_map, -getElem?_pos, List.getElem?_cons_zero, map_get, -List.map_take, -List.map_drop, take_map, drop_map, upd_ne, frOf_set, frOf_get, frOf_getD, encLInt, hm, hm1]
  generalize hr : evCL T 0 (.loop l47_0) _ _ = r
  have h : R47_0 a  r := by rw [← hr]; exact L47_0 a ha0 ha1  (0) _ _ (by omega) ⟨_, _, rfl, (by simp [upd, *]), (by simp [upd, *]), (by simp [upd, *]), by simp [← filled_zero]; rfl, by first | trivial | assumption | simp⟩
  clear hr
  obtain ⟨f0, G, rfl, u0_3, hf0⟩ := h
  simp -implicitDefEqProofs [r47_0, r47_1, r47_2, r47_3, r47_4, r47_5, r47_6, ha0, ha1, call28, callz28, e28, -List.getElem?_map, -getElem?_pos, List.getElem?_cons_zero, map_get, -List.map_take, -List.map_drop, take_map, drop_map, upd_ne, frOf_set, frOf_get, frOf_getD, encLInt, hm, hm1, u0_3, hf0, filled_end]
-- laws.toAlgebra
@[simp] theorem call14 {m : Nat} (args : List AV) (S : St) : evCall T m (evFL T) 14 args S = lendC (evFL T 14) S (lendAll S i14.pes args) := evCall0 fn14 rfl rfl args S
@[simp] theorem callz14 (args : List AV) (S : St) : evCallFz T (evFL T) 14 args S = lendZ (evFL T 14) S i14.res (lendAll S i14.pes args) := evCallFz0 fn14 rfl rfl args S
@[simp] theorem pes14 : i14.pes = [[0, 1]] := rfl
@[simp] theorem body14 : i14.body = c14 := rfl
@[simp] theorem kind14 : i14.kind = 0 := rfl
@[simp] theorem tree14 : i14.tree = false := rfl
@[simp] theorem ntmps14 : i14.ntmps = 12 := rfl
@[simp] theorem results14 : i14.results = [(ResultVar.cell 2 27)] := rfl
@[simp] theorem res14 : i14.res = [[0, 1]] := rfl
theorem e14 (a_weights : Int) (a_apply : (List (List Int))) (ha0 : a_apply.length ≤ 1048576) (ha1 : smsLInt a_apply) : evFL T 14 [.agg [.int .i64 a_weights, .ts .imm 1 (a_apply.map (encLInt .imm))]] [] = some (.agg [.int .i64 a_weights, .sl 0 0 a_apply.length], [some ⟨.arr, 1, a_apply.map (encLInt .own)⟩]) := by
  rw [evFL_at fn14 (by simp)]
  have ef0 := e47 a_apply ha0 ha1
  all_goals simp -implicitDefEqProofs [c14, r14_0, r14_1, r14_2, r14_3, r14_4, ha0, ha1, call47, callz47, e47, -List.getElem?_map, -getElem?_pos, List.getElem?_cons_zero, map_get, -List.map_take, -List.map_drop, take_map, drop_map, upd_ne, frOf_set, frOf_get, frOf_getD, ef0]
-- laws.eqIntS
@[simp] theorem call31 {m : Nat} (args : List AV) (S : St) : evCall T m (evFL T) 31 args S = lendC (evFL T 31) S (lendAll S i31.pes args) := evCall0 fn31 rfl rfl args S
@[simp] theorem callz31 (args : List AV) (S : St) : evCallFz T (evFL T) 31 args S = lendZ (evFL T 31) S i31.res (lendAll S i31.pes args) := evCallFz0 fn31 rfl rfl args S
@[simp] theorem pes31 : i31.pes = [[1], [1]] := rfl
@[simp] theorem body31 : i31.body = c31 := rfl
@[simp] theorem kind31 : i31.kind = 0 := rfl
@[simp] theorem tree31 : i31.tree = false := rfl
@[simp] theorem ntmps31 : i31.ntmps = 26 := rfl
@[simp] theorem results31 : i31.results = [(ResultVar.tmp 4)] := rfl
@[simp] theorem res31 : i31.res = [[0]] := rfl
def I31_0 (a : (List Int))  (i : Nat) (fr : Fr) (S : St) : Prop := ∃ f : Nat → AV, fr = frOf 26 f ∧ f 0 = .ts .imm 1 (a.map encInt) ∧ f 1 = .ts .imm 1 (a.map encInt) ∧ f 5 = .int .i64 i ∧ S = [] ∧ True
def R31_0 (a : (List Int))  (r : Option (Ex × Fr × St)) : Prop := (∃ f : Nat → AV, r = some (.exit 0, frOf 26 f, []) ∧ True)
theorem L31_0 (a : (List Int)) (ha0 : a.length ≤ 1048576)   : ∀ i fr S, i ≤ a.length → I31_0 a  i fr S → R31_0 a  (evCL T 0 (.loop l31_0) fr S) := by
  refine loopQ _ _ _ ?_ ?_
  · rintro i fr S hi ⟨f, rfl, t0, t1, t5, rfl, hf⟩
    have hwi : IntKind.i64.wrap ((i : Int) + 1) = (i : Int) + 1 := wrap64 (by omega) (by omega)
    all_goals simp -implicitDefEqProofs [r31_0, r31_1, r31_2, r31_3, r31_4, r31_5, r31_6, r31_7, r31_8, l31_0, ha0, -List.getElem?_map, -getElem?_pos, List.getElem?_cons_zero, map_get, -List.map_take, -List.map_drop, take_map, drop_map, upd_ne, frOf_set, frOf_get, frOf_getD, encInt, t0, t1, t5, hi, hwi]
    all_goals first | (refine .go _ _ ⟨_, rfl, (by first | rfl | assumption | simp [upd, *]), (by first | rfl | assumption | simp [upd, *]), (by first | rfl | assumption | simp [upd, *]), rfl, ?_⟩; first | trivial | assumption | simp [*]) | (refine .exit _ _ _ ⟨_, rfl, ?_⟩; first | trivial | assumption | simp [*])
  · rintro fr S ⟨f, rfl, t0, t1, t5, rfl, hf⟩
    simp -implicitDefEqProofs [r31_0, r31_1, r31_2, r31_3, r31_4, r31_5, r31_6, r31_7, r31_8, l31_0, ha0, -List.getElem?_map, -getElem?_pos, List.getElem?_cons_zero, map_get, -List.map_take, -List.map_drop, take_map, drop_map, upd_ne, frOf_set, frOf_get, frOf_getD, encInt, t0, t1, t5]
    refine .exit _ _ _ ⟨_, rfl, ?_⟩
    first | trivial | assumption | simp [*]
theorem e31 (a : (List Int)) (ha0 : a.length ≤ 1048576) : evFL T 31 [.ts .imm 1 (a.map encInt), .ts .imm 1 (a.map encInt)] [] = some (.bool true, []) := by
  rw [evFL_at fn31 (by simp)]
  simp -implicitDefEqProofs [c31, r31_0, r31_1, r31_2, r31_3, r31_4, r31_5, r31_6, r31_7, r31_8, ha0, -List.getElem?_map, -getElem?_pos, List.getElem?_cons_zero, map_get, -List.map_take, -List.map_drop, take_map, drop_map, upd_ne, frOf_set, frOf_get, frOf_getD, encInt]
  generalize hr : evCL T 0 (.loop l31_0) _ _ = r
  have h : R31_0 a  r := by rw [← hr]; exact L31_0 a ha0  (0) _ _ (by omega) ⟨_, rfl, (by simp [upd, *]), (by simp [upd, *]), (by simp [upd, *]), rfl, by first | trivial | assumption | simp⟩
  clear hr
  obtain ⟨f0, rfl, hf0⟩ := h
  simp -implicitDefEqProofs [r31_0, r31_1, r31_2, r31_3, r31_4, r31_5, r31_6, r31_7, r31_8, ha0, -List.getElem?_map, -getElem?_pos, List.getElem?_cons_zero, map_get, -List.map_take, -List.map_drop, take_map, drop_map, upd_ne, frOf_set, frOf_get, frOf_getD, encInt, hf0] <;> try omega
-- laws.eqIntSS
@[simp] theorem call54 {m : Nat} (args : List AV) (S : St) : evCall T m (evFL T) 54 args S = lendC (evFL T 54) S (lendAll S i54.pes args) := evCall0 fn54 rfl rfl args S
@[simp] theorem callz54 (args : List AV) (S : St) : evCallFz T (evFL T) 54 args S = lendZ (evFL T 54) S i54.res (lendAll S i54.pes args) := evCallFz0 fn54 rfl rfl args S
@[simp] theorem pes54 : i54.pes = [[1], [1]] := rfl
@[simp] theorem body54 : i54.body = c54 := rfl
@[simp] theorem kind54 : i54.kind = 0 := rfl
@[simp] theorem tree54 : i54.tree = false := rfl
@[simp] theorem ntmps54 : i54.ntmps = 27 := rfl
@[simp] theorem results54 : i54.results = [(ResultVar.tmp 4)] := rfl
@[simp] theorem res54 : i54.res = [[0]] := rfl
def I54_0 (a : (List (List Int)))  (i : Nat) (fr : Fr) (S : St) : Prop := ∃ f : Nat → AV, fr = frOf 27 f ∧ f 0 = .ts .imm 1 (a.map (encLInt .imm)) ∧ f 1 = .ts .imm 1 (a.map (encLInt .imm)) ∧ f 5 = .int .i64 i ∧ S = [] ∧ True
def R54_0 (a : (List (List Int)))  (r : Option (Ex × Fr × St)) : Prop := (∃ f : Nat → AV, r = some (.exit 0, frOf 27 f, []) ∧ True)
theorem L54_0 (a : (List (List Int))) (ha0 : a.length ≤ 1048576) (ha1 : smsLInt a)   : ∀ i fr S, i ≤ a.length → I54_0 a  i fr S → R54_0 a  (evCL T 0 (.loop l54_0) fr S) := by
  refine loopQ _ _ _ ?_ ?_
  · rintro i fr S hi ⟨f, rfl, t0, t1, t5, rfl, hf⟩
    have hwi : IntKind.i64.wrap ((i : Int) + 1) = (i : Int) + 1 := wrap64 (by omega) (by omega)
    have hy := ha1 (nth a i) (nth_mem hi)
    simp only [smLInt] at hy
    have ef := e31 ((nth a i)) hy
    all_goals simp -implicitDefEqProofs [r54_0, r54_1, r54_2, r54_3, r54_4, r54_5, r54_6, r54_7, r54_8, l54_0, ha0, ha1, call31, callz31, e31, -List.getElem?_map, -getElem?_pos, List.getElem?_cons_zero, map_get, -List.map_take, -List.map_drop, take_map, drop_map, upd_ne, frOf_set, frOf_get, frOf_getD, encLInt, t0, t1, t5, hi, hwi, hy, ef]
    all_goals first | (refine .go _ _ ⟨_, rfl, (by first | rfl | assumption | simp [upd, *]), (by first | rfl | assumption | simp [upd, *]), (by first | rfl | assumption | simp [upd, *]), rfl, ?_⟩; first | trivial | assumption | simp [*]) | (refine .exit _ _ _ ⟨_, rfl, ?_⟩; first | trivial | assumption | simp [*])
  · rintro fr S ⟨f, rfl, t0, t1, t5, rfl, hf⟩
    simp -implicitDefEqProofs [r54_0, r54_1, r54_2, r54_3, r54_4, r54_5, r54_6, r54_7, r54_8, l54_0, ha0, ha1, call31, callz31, e31, -List.getElem?_map, -getElem?_pos, List.getElem?_cons_zero, map_get, -List.map_take, -List.map_drop, take_map, drop_map, upd_ne, frOf_set, frOf_get, frOf_getD, encLInt, t0, t1, t5]
    refine .exit _ _ _ ⟨_, rfl, ?_⟩
    first | trivial | assumption | simp [*]
theorem e54 (a : (List (List Int))) (ha0 : a.length ≤ 1048576) (ha1 : smsLInt a) : evFL T 54 [.ts .imm 1 (a.map (encLInt .imm)), .ts .imm 1 (a.map (encLInt .imm))] [] = some (.bool true, []) := by
  rw [evFL_at fn54 (by simp)]
  simp -implicitDefEqProofs [c54, r54_0, r54_1, r54_2, r54_3, r54_4, r54_5, r54_6, r54_7, r54_8, ha0, ha1, call31, callz31, e31, -List.getElem?_map, -getElem?_pos, List.getElem?_cons_zero, map_get, -List.map_take, -List.map_drop, take_map, drop_map, upd_ne, frOf_set, frOf_get, frOf_getD, encLInt]
  generalize hr : evCL T 0 (.loop l54_0) _ _ = r
  have h : R54_0 a  r := by rw [← hr]; exact L54_0 a ha0 ha1  (0) _ _ (by omega) ⟨_, rfl, (by simp [upd, *]), (by simp [upd, *]), (by simp [upd, *]), rfl, by first | trivial | assumption | simp⟩
  clear hr
  obtain ⟨f0, rfl, hf0⟩ := h
  simp -implicitDefEqProofs [r54_0, r54_1, r54_2, r54_3, r54_4, r54_5, r54_6, r54_7, r54_8, ha0, ha1, call31, callz31, e31, -List.getElem?_map, -getElem?_pos, List.getElem?_cons_zero, map_get, -List.map_take, -List.map_drop, take_map, drop_map, upd_ne, frOf_set, frOf_get, frOf_getD, encLInt, hf0] <;> try omega
-- laws.eqAlgebra
@[simp] theorem call16 {m : Nat} (args : List AV) (S : St) : evCall T m (evFL T) 16 args S = lendC (evFL T 16) S (lendAll S i16.pes args) := evCall0 fn16 rfl rfl args S
@[simp] theorem callz16 (args : List AV) (S : St) : evCallFz T (evFL T) 16 args S = lendZ (evFL T 16) S i16.res (lendAll S i16.pes args) := evCallFz0 fn16 rfl rfl args S
@[simp] theorem pes16 : i16.pes = [[0, 1], [0, 1]] := rfl
@[simp] theorem body16 : i16.body = c16 := rfl
@[simp] theorem kind16 : i16.kind = 0 := rfl
@[simp] theorem tree16 : i16.tree = false := rfl
@[simp] theorem ntmps16 : i16.ntmps = 16 := rfl
@[simp] theorem results16 : i16.results = [(ResultVar.tmp 4)] := rfl
@[simp] theorem res16 : i16.res = [[0]] := rfl
theorem e16 (a_weights : Int) (a_apply : (List (List Int))) (ha0 : a_apply.length ≤ 1048576) (ha1 : smsLInt a_apply) : evFL T 16 [.agg [.int .i64 a_weights, .ts .imm 1 (a_apply.map (encLInt .imm))], .agg [.int .i64 a_weights, .ts .imm 1 (a_apply.map (encLInt .imm))]] [] = some (.bool true, []) := by
  rw [evFL_at fn16 (by simp)]
  have ef0 := e54 a_apply ha0 ha1
  all_goals simp -implicitDefEqProofs [c16, r16_0, r16_1, r16_2, r16_3, r16_4, r16_5, ha0, ha1, call54, callz54, e54, -List.getElem?_map, -getElem?_pos, List.getElem?_cons_zero, map_get, -List.map_take, -List.map_drop, take_map, drop_map, upd_ne, frOf_set, frOf_get, frOf_getD, ef0]
-- laws.szArcS
@[simp] theorem call25 {m : Nat} (args : List AV) (S : St) : evCall T m (evFL T) 25 args S = lendC (evFL T 25) S (lendAll S i25.pes args) := evCall0 fn25 rfl rfl args S
@[simp] theorem callz25 (args : List AV) (S : St) : evCallFz T (evFL T) 25 args S = lendZ (evFL T 25) S i25.res (lendAll S i25.pes args) := evCallFz0 fn25 rfl rfl args S
@[simp] theorem pes25 : i25.pes = [[3], [0]] := rfl
@[simp] theorem body25 : i25.body = c25 := rfl
@[simp] theorem kind25 : i25.kind = 0 := rfl
@[simp] theorem tree25 : i25.tree = false := rfl
@[simp] theorem ntmps25 : i25.ntmps = 12 := rfl
@[simp] theorem results25 : i25.results = [(ResultVar.tmp 4)] := rfl
@[simp] theorem res25 : i25.res = [[0]] := rfl
theorem e25 (a : (List Arc)) (l : Int) (hw0 : a.length ≤ 9223372036854775807) (hl0 : 0 ≤ l) (hl1 : l ≤ 1048576) : evFL T 25 [.ts .imm 3 (a.map encArc), .int .i64 l] [] = some (.int .i64 (szLArc a l), []) := by
  rw [evFL_at fn25 (by simp)]
  have hn : IntKind.i64.wrap (l - (a.length : Int)) = l - (a.length : Int) := wrap64 (by omega) (by omega)
  by_cases hc0 : l - (a.length : Int) < 0
  all_goals simp -implicitDefEqProofs [c25, r25_0, r25_1, r25_2, r25_3, r25_4, hw0, hl0, hl1, -List.getElem?_map, -getElem?_pos, List.getElem?_cons_zero, map_get, -List.map_take, -List.map_drop, take_map, drop_map, upd_ne, frOf_set, frOf_get, frOf_getD, hn, szL, szLArc, hc0]
-- spec.l1In
@[simp] theorem call45 {m : Nat} (args : List AV) (S : St) : evCall T m (evFL T) 45 args S = lendC (evFL T 45) S (lendAll S i45.pes args) := evCall0 fn45 rfl rfl args S
@[simp] theorem callz45 (args : List AV) (S : St) : evCallFz T (evFL T) 45 args S = lendZ (evFL T 45) S i45.res (lendAll S i45.pes args) := evCallFz0 fn45 rfl rfl args S
@[simp] theorem pes45 : i45.pes = [[0], [0], [0]] := rfl
@[simp] theorem body45 : i45.body = c45 := rfl
@[simp] theorem kind45 : i45.kind = 0 := rfl
@[simp] theorem tree45 : i45.tree = false := rfl
@[simp] theorem ntmps45 : i45.ntmps = 15 := rfl
@[simp] theorem results45 : i45.results = [(ResultVar.tmp 6)] := rfl
@[simp] theorem res45 : i45.res = [[0]] := rfl
theorem e45 (a : Int) (b : Int) (c : Int)  : evFL T 45 [.int .i64 a, .int .i64 b, .int .i64 c] [] = some (.bool (inR a b c), []) := by
  rw [evFL_at fn45 (by simp)]
  by_cases hc0 : b ≤ a
  all_goals simp -implicitDefEqProofs [c45, r45_0, r45_1, -List.getElem?_map, -getElem?_pos, List.getElem?_cons_zero, map_get, -List.map_take, -List.map_drop, take_map, drop_map, upd_ne, frOf_set, frOf_get, frOf_getD, inR, hc0]
def rowB (n : Int) (l : List Int) : Bool := (l.all fun x => inR x 0 (n - 1)) && decide ((l.length : Int) = n) && decide (nth l (n - 1).toNat = n - 1)
def algB (x : Algebra) : Bool := inR x.weights 2 12 && inR (x.apply.length : Int) 1 4 && x.apply.all (rowB x.weights)
-- spec.l9Apply
@[simp] theorem call46 {m : Nat} (args : List AV) (S : St) : evCall T m (evFL T) 46 args S = lendC (evFL T 46) S (lendAll S i46.pes args) := evCall0 fn46 rfl rfl args S
@[simp] theorem callz46 (args : List AV) (S : St) : evCallFz T (evFL T) 46 args S = lendZ (evFL T 46) S i46.res (lendAll S i46.pes args) := evCallFz0 fn46 rfl rfl args S
@[simp] theorem pes46 : i46.pes = [[1], [0]] := rfl
@[simp] theorem body46 : i46.body = c46 := rfl
@[simp] theorem kind46 : i46.kind = 0 := rfl
@[simp] theorem tree46 : i46.tree = false := rfl
@[simp] theorem ntmps46 : i46.ntmps = 35 := rfl
@[simp] theorem results46 : i46.results = [(ResultVar.tmp 4)] := rfl
@[simp] theorem res46 : i46.res = [[0]] := rfl
def I46_0 (l : (List Int)) (n : Int)  (i : Nat) (fr : Fr) (S : St) : Prop := ∃ f : Nat → AV, fr = frOf 35 f ∧ f 0 = .ts .imm 1 (l.map encInt) ∧ f 1 = .int .i64 n ∧ f 7 = .ts .imm 1 (l.map encInt) ∧ f 8 = .int .i64 l.length ∧ f 9 = .int .i64 i ∧ S = [] ∧ ∀ j, j < i → inR (nth l j) 0 (n - 1) = true
def R46_0 (l : (List Int)) (n : Int)  (r : Option (Ex × Fr × St)) : Prop := (∃ f : Nat → AV, r = some (.ret, frOf 35 f, []) ∧ f 4 = .bool false ∧ (l.all fun x => inR x 0 (n - 1)) = false) ∨ (∃ f : Nat → AV, r = some (.exit 0, frOf 35 f, []) ∧ f 0 = .ts .imm 1 (l.map encInt) ∧ f 1 = .int .i64 n ∧ (l.all fun x => inR x 0 (n - 1)) = true)
theorem L46_0 (l : (List Int)) (n : Int) (h0 : l.length ≤ 1048576) (h1 : 2 ≤ n) (h2 : n ≤ 12)   : ∀ i fr S, i ≤ l.length → I46_0 l n  i fr S → R46_0 l n  (evCL T 0 (.loop l46_0) fr S) := by
  refine loopQ _ _ _ ?_ ?_
  · rintro i fr S hi ⟨f, rfl, t0, t1, t7, t8, t9, rfl, hf⟩
    have hwi : IntKind.i64.wrap ((i : Int) + 1) = (i : Int) + 1 := wrap64 (by omega) (by omega)
    by_cases ht1 : nth l i < 0
    · simp -implicitDefEqProofs [r46_0, r46_1, r46_2, r46_3, r46_4, r46_5, r46_6, r46_7, l46_0, h0, h1, h2, -List.getElem?_map, -getElem?_pos, List.getElem?_cons_zero, map_get, -List.map_take, -List.map_drop, take_map, drop_map, upd_ne, frOf_set, frOf_get, frOf_getD, encInt, t0, t1, t7, t8, t9, hi, hwi, ht1]
      refine .ret _ _ (Or.inl ⟨_, rfl, (by first | rfl | assumption | simp [upd, *]), ?_⟩); exact fa_no hi (by simp [inR]; omega)
    · by_cases ht2 : n ≤ nth l i
      · simp -implicitDefEqProofs [r46_0, r46_1, r46_2, r46_3, r46_4, r46_5, r46_6, r46_7, l46_0, h0, h1, h2, -List.getElem?_map, -getElem?_pos, List.getElem?_cons_zero, map_get, -List.map_take, -List.map_drop, take_map, drop_map, upd_ne, frOf_set, frOf_get, frOf_getD, encInt, t0, t1, t7, t8, t9, hi, hwi, ht1, ht2]
        refine .ret _ _ (Or.inl ⟨_, rfl, (by first | rfl | assumption | simp [upd, *]), ?_⟩); exact fa_no hi (by simp [inR]; omega)
      · simp -implicitDefEqProofs [r46_0, r46_1, r46_2, r46_3, r46_4, r46_5, r46_6, r46_7, l46_0, h0, h1, h2, -List.getElem?_map, -getElem?_pos, List.getElem?_cons_zero, map_get, -List.map_take, -List.map_drop, take_map, drop_map, upd_ne, frOf_set, frOf_get, frOf_getD, encInt, t0, t1, t7, t8, t9, hi, hwi, ht1, ht2]
        refine .go _ _ ⟨_, rfl, (by first | rfl | assumption | simp [upd, *]), (by first | rfl | assumption | simp [upd, *]), (by first | rfl | assumption | simp [upd, *]), (by first | rfl | assumption | simp [upd, *]), (by first | rfl | assumption | simp [upd, *]), rfl, ?_⟩; exact fa_succ hf (by simp [inR]; omega)
  · rintro fr S ⟨f, rfl, t0, t1, t7, t8, t9, rfl, hf⟩
    simp -implicitDefEqProofs [r46_0, r46_1, r46_2, r46_3, r46_4, r46_5, r46_6, r46_7, l46_0, h0, h1, h2, -List.getElem?_map, -getElem?_pos, List.getElem?_cons_zero, map_get, -List.map_take, -List.map_drop, take_map, drop_map, upd_ne, frOf_set, frOf_get, frOf_getD, encInt, t0, t1, t7, t8, t9]
    refine .exit _ _ _ (Or.inr ⟨_, rfl, (by first | rfl | assumption | simp [upd, *]), (by first | rfl | assumption | simp [upd, *]), ?_⟩)
    exact fa_all hf
theorem e46 (l : (List Int)) (n : Int) (h0 : l.length ≤ 1048576) (h1 : 2 ≤ n) (h2 : n ≤ 12) : evFL T 46 [.ts .imm 1 (l.map encInt), .int .i64 n] [] = some (.bool (rowB n l), []) := by
  rw [evFL_at fn46 (by simp)]
  simp -implicitDefEqProofs [c46, r46_0, r46_1, r46_2, r46_3, r46_4, r46_5, r46_6, r46_7, h0, h1, h2, -List.getElem?_map, -getElem?_pos, List.getElem?_cons_zero, map_get, -List.map_take, -List.map_drop, take_map, drop_map, upd_ne, frOf_set, frOf_get, frOf_getD, encInt]
  generalize hr : evCL T 0 (.loop l46_0) _ _ = r
  have h : R46_0 l n  r := by rw [← hr]; exact L46_0 l n h0 h1 h2  (0) _ _ (by omega) ⟨_, rfl, (by simp [upd, *]), (by simp [upd, *]), (by simp [upd, *]), (by simp [upd, *]), (by simp [upd, *]), rfl, by simp⟩
  clear hr
  rcases h with h | h
  · obtain ⟨f0, rfl, u0_4, hf0⟩ := h
    simp -implicitDefEqProofs [r46_0, r46_1, r46_2, r46_3, r46_4, r46_5, r46_6, r46_7, h0, h1, h2, -List.getElem?_map, -getElem?_pos, List.getElem?_cons_zero, map_get, -List.map_take, -List.map_drop, take_map, drop_map, upd_ne, frOf_set, frOf_get, frOf_getD, encInt, u0_4, hf0, rowB]
  obtain ⟨f0, rfl, u0_0, u0_1, hf0⟩ := h
  obtain ⟨k, rfl⟩ : ∃ k : Nat, n = (k : Int) + 1 := ⟨(n - 1).toNat, by omega⟩
  by_cases hl : (l.length : Int) = (k : Int) + 1
  · have hk : k < l.length := by omega
    have hwn : IntKind.i64.wrap (k : Int) = (k : Int) := wrap64 (by omega) (by omega)
    simp -implicitDefEqProofs [r46_0, r46_1, r46_2, r46_3, r46_4, r46_5, r46_6, r46_7, h0, h1, h2, -List.getElem?_map, -getElem?_pos, List.getElem?_cons_zero, map_get, -List.map_take, -List.map_drop, take_map, drop_map, upd_ne, frOf_set, frOf_get, frOf_getD, encInt, u0_0, u0_1, hf0, rowB, hl, hk, hwn]
    intro _; simpa using hf0
  · simp -implicitDefEqProofs [r46_0, r46_1, r46_2, r46_3, r46_4, r46_5, r46_6, r46_7, h0, h1, h2, -List.getElem?_map, -getElem?_pos, List.getElem?_cons_zero, map_get, -List.map_take, -List.map_drop, take_map, drop_map, upd_ne, frOf_set, frOf_get, frOf_getD, encInt, u0_0, u0_1, hf0, rowB, hl]
-- spec.GoodAlgebra
@[simp] theorem call13 {m : Nat} (args : List AV) (S : St) : evCall T m (evFL T) 13 args S = lendC (evFL T 13) S (lendAll S i13.pes args) := evCall0 fn13 rfl rfl args S
@[simp] theorem callz13 (args : List AV) (S : St) : evCallFz T (evFL T) 13 args S = lendZ (evFL T 13) S i13.res (lendAll S i13.pes args) := evCallFz0 fn13 rfl rfl args S
@[simp] theorem pes13 : i13.pes = [[0, 1]] := rfl
@[simp] theorem body13 : i13.body = c13 := rfl
@[simp] theorem kind13 : i13.kind = 0 := rfl
@[simp] theorem tree13 : i13.tree = false := rfl
@[simp] theorem ntmps13 : i13.ntmps = 29 := rfl
@[simp] theorem results13 : i13.results = [(ResultVar.tmp 2)] := rfl
@[simp] theorem res13 : i13.res = [[0]] := rfl
def I13_0 (a_weights : Int) (a_apply : (List (List Int)))  (i : Nat) (fr : Fr) (S : St) : Prop := ∃ f : Nat → AV, fr = frOf 29 f ∧ f 1 = .ptr 0 0 0 ∧ f 17 = .ts .imm 1 (a_apply.map (encLInt .imm)) ∧ f 18 = .int .i64 a_apply.length ∧ f 19 = .int .i64 i ∧ S = [some ⟨.box, 2, [[.int .i64 a_weights, .ts .imm 1 (a_apply.map (encLInt .imm))]]⟩] ∧ ∀ j, j < i → rowB a_weights (nth a_apply j) = true
def R13_0 (a_weights : Int) (a_apply : (List (List Int)))  (r : Option (Ex × Fr × St)) : Prop := (∃ f : Nat → AV, r = some (.ret, frOf 29 f, [some ⟨.box, 2, [[.int .i64 a_weights, .ts .imm 1 (a_apply.map (encLInt .imm))]]⟩]) ∧ f 2 = .bool false ∧ a_apply.all (rowB a_weights) = false) ∨ (∃ f : Nat → AV, r = some (.exit 0, frOf 29 f, [some ⟨.box, 2, [[.int .i64 a_weights, .ts .imm 1 (a_apply.map (encLInt .imm))]]⟩]) ∧ a_apply.all (rowB a_weights) = true)
theorem L13_0 (a_weights : Int) (a_apply : (List (List Int))) (ha0 : a_apply.length ≤ 1048576) (ha1 : smsLInt a_apply)  (hw : inR a_weights 2 12 = true) : ∀ i fr S, i ≤ a_apply.length → I13_0 a_weights a_apply  i fr S → R13_0 a_weights a_apply  (evCL T 0 (.loop l13_0) fr S) := by
  refine loopQ _ _ _ ?_ ?_
  · rintro i fr S hi ⟨f, rfl, t1, t17, t18, t19, rfl, hf⟩
    have hwi : IntKind.i64.wrap ((i : Int) + 1) = (i : Int) + 1 := wrap64 (by omega) (by omega)
    have hy := ha1 (nth a_apply i) (nth_mem hi)
    simp only [smLInt] at hy
    have hw2 : 2 ≤ a_weights ∧ a_weights ≤ 12 := by simpa [inR] using hw
    obtain ⟨hw3, hw4⟩ := hw2
    cases hc : rowB a_weights (nth a_apply i)
    · simp -implicitDefEqProofs [r13_0, r13_1, r13_2, r13_3, r13_4, r13_5, r13_6, r13_7, r13_8, r13_9, l13_0, ha0, ha1, call45, callz45, e45, call46, callz46, e46, -List.getElem?_map, -getElem?_pos, List.getElem?_cons_zero, map_get, -List.map_take, -List.map_drop, take_map, drop_map, upd_ne, frOf_set, frOf_get, frOf_getD, encLInt, t1, t17, t18, t19, hi, hwi, hy, hw3, hw4, hc]
      refine .ret _ _ (Or.inl ⟨_, rfl, (by first | rfl | assumption | simp [upd, *]), ?_⟩); exact fa_no hi hc
    · simp -implicitDefEqProofs [r13_0, r13_1, r13_2, r13_3, r13_4, r13_5, r13_6, r13_7, r13_8, r13_9, l13_0, ha0, ha1, call45, callz45, e45, call46, callz46, e46, -List.getElem?_map, -getElem?_pos, List.getElem?_cons_zero, map_get, -List.map_take, -List.map_drop, take_map, drop_map, upd_ne, frOf_set, frOf_get, frOf_getD, encLInt, t1, t17, t18, t19, hi, hwi, hy, hw3, hw4, hc]
      refine .go _ _ ⟨_, rfl, (by first | rfl | assumption | simp [upd, *]), (by first | rfl | assumption | simp [upd, *]), (by first | rfl | assumption | simp [upd, *]), (by first | rfl | assumption | simp [upd, *]), rfl, ?_⟩; exact fa_succ hf hc
  · rintro fr S ⟨f, rfl, t1, t17, t18, t19, rfl, hf⟩
    simp -implicitDefEqProofs [r13_0, r13_1, r13_2, r13_3, r13_4, r13_5, r13_6, r13_7, r13_8, r13_9, l13_0, ha0, ha1, call45, callz45, e45, call46, callz46, e46, -List.getElem?_map, -getElem?_pos, List.getElem?_cons_zero, map_get, -List.map_take, -List.map_drop, take_map, drop_map, upd_ne, frOf_set, frOf_get, frOf_getD, encLInt, t1, t17, t18, t19]
    refine .exit _ _ _ (Or.inr ⟨_, rfl, ?_⟩)
    exact fa_all hf
theorem e13 (a_weights : Int) (a_apply : (List (List Int))) (ha0 : a_apply.length ≤ 1048576) (ha1 : smsLInt a_apply) : evFL T 13 [.agg [.int .i64 a_weights, .ts .imm 1 (a_apply.map (encLInt .imm))]] [] = some (.bool (algB (⟨a_weights, a_apply⟩ : Algebra)), []) := by
  rw [evFL_at fn13 (by simp)]
  cases hw : inR a_weights 2 12
  · simp -implicitDefEqProofs [c13, r13_0, r13_1, r13_2, r13_3, r13_4, r13_5, r13_6, r13_7, r13_8, r13_9, ha0, ha1, call45, callz45, e45, call46, callz46, e46, -List.getElem?_map, -getElem?_pos, List.getElem?_cons_zero, map_get, -List.map_take, -List.map_drop, take_map, drop_map, upd_ne, frOf_set, frOf_get, frOf_getD, encLInt, hw, algB]
  cases hn : inR (a_apply.length : Int) 1 4
  · simp -implicitDefEqProofs [c13, r13_0, r13_1, r13_2, r13_3, r13_4, r13_5, r13_6, r13_7, r13_8, r13_9, ha0, ha1, call45, callz45, e45, call46, callz46, e46, -List.getElem?_map, -getElem?_pos, List.getElem?_cons_zero, map_get, -List.map_take, -List.map_drop, take_map, drop_map, upd_ne, frOf_set, frOf_get, frOf_getD, encLInt, hw, hn, algB]
  simp -implicitDefEqProofs [c13, r13_0, r13_1, r13_2, r13_3, r13_4, r13_5, r13_6, r13_7, r13_8, r13_9, ha0, ha1, call45, callz45, e45, call46, callz46, e46, -List.getElem?_map, -getElem?_pos, List.getElem?_cons_zero, map_get, -List.map_take, -List.map_drop, take_map, drop_map, upd_ne, frOf_set, frOf_get, frOf_getD, encLInt, hw, hn]
  generalize hr : evCL T 0 (.loop l13_0) _ _ = r
  have h : R13_0 a_weights a_apply  r := by rw [← hr]; exact L13_0 a_weights a_apply ha0 ha1 hw (0) _ _ (by omega) ⟨_, rfl, (by simp [upd, *]), (by simp [upd, *]), (by simp [upd, *]), (by simp [upd, *]), rfl, by simp⟩
  clear hr
  rcases h with h | h
  · obtain ⟨f0, rfl, u0_2, hf0⟩ := h
    simp -implicitDefEqProofs [r13_0, r13_1, r13_2, r13_3, r13_4, r13_5, r13_6, r13_7, r13_8, r13_9, ha0, ha1, call45, callz45, e45, call46, callz46, e46, -List.getElem?_map, -getElem?_pos, List.getElem?_cons_zero, map_get, -List.map_take, -List.map_drop, take_map, drop_map, upd_ne, frOf_set, frOf_get, frOf_getD, encLInt, u0_2, hf0, algB]
  obtain ⟨f0, rfl, hf0⟩ := h
  simp -implicitDefEqProofs [r13_0, r13_1, r13_2, r13_3, r13_4, r13_5, r13_6, r13_7, r13_8, r13_9, ha0, ha1, call45, callz45, e45, call46, callz46, e46, -List.getElem?_map, -getElem?_pos, List.getElem?_cons_zero, map_get, -List.map_take, -List.map_drop, take_map, drop_map, upd_ne, frOf_set, frOf_get, frOf_getD, encLInt, hf0, algB, hw, hn]
def arcP (m : Int) (x : Arc) : Bool := inR x.from_ 0 5 && inR x.to 0 5 && !decide (x.from_ = x.to) && inR x.label 0 (m - 1)
def arcsB (a : Algebra) (l : List Arc) : Bool := algB a && decide ((l.length : Int) ≤ 20) && l.all (arcP (a.apply.length : Int))
def arcEq (f t : Int) (x : Arc) : Bool := decide (x.from_ = f) && decide (x.to = t)
def arcOf (f t : Int) : List Arc → Option Int
  | [] => none
  | x :: r => if x.from_ = f ∧ x.to = t then some x.label else arcOf f t r
theorem arcOf_mem {f t : Int} {l : List Arc} {k : Int} (h : arcOf f t l = some k) : ∃ x ∈ l, x.label = k := by
  induction l with
  | nil => simp [arcOf] at h
  | cons x r ih =>
    simp only [arcOf] at h
    split at h
    · injection h with h; exact ⟨x, by simp, h⟩
    · obtain ⟨y, hy, e⟩ := ih h; exact ⟨y, by simp [hy], e⟩
theorem arcOf_idx (f t : Int) (l : List Arc) : arcOf f t l = if idxF (arcEq f t) l < 0 then none else some (nth l (idxF (arcEq f t) l).toNat).label := by
  induction l with
  | nil => rfl
  | cons x r ih =>
    have hg := idxF_ge (arcEq f t) r
    by_cases h : x.from_ = f ∧ x.to = t
    · have h2 : arcEq f t x = true := by simp [arcEq, h.1, h.2]
      simp [arcOf, idxF, h, h2, nth]
    · have h2 : arcEq f t x = false := by
        simp only [arcEq]; rw [Bool.eq_false_iff]; intro h3; simp at h3; exact h h3
      simp only [arcOf, idxF, h, h2, if_false, ih, Bool.false_eq_true]
      by_cases h4 : idxF (arcEq f t) r < 0
      · simp [h4]
      · have h5 : ¬ (idxF (arcEq f t) r + 1 < 0) := by omega
        have h6 : (idxF (arcEq f t) r + 1).toNat = (idxF (arcEq f t) r).toNat + 1 := by omega
        simp only [h4, h5, if_false, h6]
        simp [nth]
theorem arcsB_label {a : Algebra} {l : List Arc} (h : arcsB a l = true) {f t k : Int} (hk : arcOf f t l = some k) : 0 ≤ k ∧ k < a.apply.length := by
  simp only [arcsB, Bool.and_eq_true, List.all_eq_true] at h
  obtain ⟨x, hx, rfl⟩ := arcOf_mem hk
  have := h.2 x hx
  simp only [arcP, inR, Bool.and_eq_true, decide_eq_true_eq] at this
  omega
theorem alg_row {a : Algebra} (h : algB a = true) {k : Nat} (hk : k < a.apply.length) : ((nth a.apply k).length : Int) = a.weights ∧ 2 ≤ a.weights ∧ a.weights ≤ 12 ∧ ∀ w : Nat, w < (nth a.apply k).length → 0 ≤ nth (nth a.apply k) w ∧ nth (nth a.apply k) w < a.weights := by
  simp only [algB, Bool.and_eq_true, List.all_eq_true] at h
  have h1 := h.2 _ (nth_mem hk)
  simp only [rowB, Bool.and_eq_true, decide_eq_true_eq, List.all_eq_true] at h1
  have h2 := h.1.1
  simp only [inR, Bool.and_eq_true, decide_eq_true_eq] at h2
  refine ⟨h1.1.2, h2.1, h2.2, fun w hw => ?_⟩
  have := h1.1.1 _ (nth_mem hw)
  simp only [inR, Bool.and_eq_true, decide_eq_true_eq] at this
  omega
-- spec.l9Arcs
@[simp] theorem call59 {m : Nat} (args : List AV) (S : St) : evCall T m (evFL T) 59 args S = lendC (evFL T 59) S (lendAll S i59.pes args) := evCall0 fn59 rfl rfl args S
@[simp] theorem callz59 (args : List AV) (S : St) : evCallFz T (evFL T) 59 args S = lendZ (evFL T 59) S i59.res (lendAll S i59.pes args) := evCallFz0 fn59 rfl rfl args S
@[simp] theorem pes59 : i59.pes = [[0, 1], [3]] := rfl
@[simp] theorem body59 : i59.body = c59 := rfl
@[simp] theorem kind59 : i59.kind = 0 := rfl
@[simp] theorem tree59 : i59.tree = false := rfl
@[simp] theorem ntmps59 : i59.ntmps = 51 := rfl
@[simp] theorem results59 : i59.results = [(ResultVar.tmp 4)] := rfl
@[simp] theorem res59 : i59.res = [[0]] := rfl
def I59_0 (a_weights : Int) (a_apply : (List (List Int))) (l : (List Arc))  (i : Nat) (fr : Fr) (S : St) : Prop := ∃ f : Nat → AV, ∃ G : St, fr = frOf 51 f ∧ f 1 = .ts .imm 3 (l.map encArc) ∧ f 2 = .ptr 0 0 0 ∧ f 7 = .ts .imm 3 (l.map encArc) ∧ f 8 = .int .i64 l.length ∧ f 9 = .int .i64 i ∧ S = some ⟨.box, 2, [[.int .i64 a_weights, .ts .imm 1 (a_apply.map (encLInt .imm))]]⟩ :: G ∧ ∀ j, j < i → arcP (a_apply.length : Int) (nth l j) = true
def R59_0 (a_weights : Int) (a_apply : (List (List Int))) (l : (List Arc))  (r : Option (Ex × Fr × St)) : Prop := (∃ f : Nat → AV, ∃ G : St, r = some (.ret, frOf 51 f, some ⟨.box, 2, [[.int .i64 a_weights, .ts .imm 1 (a_apply.map (encLInt .imm))]]⟩ :: G) ∧ f 4 = .bool false ∧ l.all (arcP (a_apply.length : Int)) = false) ∨ (∃ f : Nat → AV, ∃ G : St, r = some (.exit 0, frOf 51 f, some ⟨.box, 2, [[.int .i64 a_weights, .ts .imm 1 (a_apply.map (encLInt .imm))]]⟩ :: G) ∧ f 1 = .ts .imm 3 (l.map encArc) ∧ f 2 = .ptr 0 0 0 ∧ l.all (arcP (a_apply.length : Int)) = true)
theorem L59_0 (a_weights : Int) (a_apply : (List (List Int))) (l : (List Arc)) (ha0 : a_apply.length ≤ 1048576) (ha1 : smsLInt a_apply) (h0 : l.length ≤ 1048576)   : ∀ i fr S, i ≤ l.length → I59_0 a_weights a_apply l  i fr S → R59_0 a_weights a_apply l  (evCL T 0 (.loop l59_0) fr S) := by
  refine loopQ _ _ _ ?_ ?_
  · rintro i fr S hi ⟨f, G, rfl, t1, t2, t7, t8, t9, rfl, hf⟩
    have hwi : IntKind.i64.wrap ((i : Int) + 1) = (i : Int) + 1 := wrap64 (by omega) (by omega)
    by_cases ht1 : inR (nth l i).from_ 0 5 = true
    · by_cases ht2 : inR (nth l i).to 0 5 = true
      · by_cases ht3 : (nth l i).from_ = (nth l i).to
        · simp -implicitDefEqProofs [r59_0, r59_1, r59_2, r59_3, r59_4, r59_5, r59_6, r59_7, l59_0, ha0, ha1, h0, call13, callz13, e13, call45, callz45, e45, -List.getElem?_map, -getElem?_pos, List.getElem?_cons_zero, map_get, -List.map_take, -List.map_drop, take_map, drop_map, upd_ne, frOf_set, frOf_get, frOf_getD, encArc, t1, t2, t7, t8, t9, hi, hwi, ht1, ht2, ht3]
          refine .ret _ _ (Or.inl ⟨_, _, rfl, (by first | rfl | assumption | simp [upd, *]), ?_⟩); exact fa_no hi (by simp [arcP, ht3])
        · by_cases ht4 : (nth l i).label < 0
          · simp -implicitDefEqProofs [r59_0, r59_1, r59_2, r59_3, r59_4, r59_5, r59_6, r59_7, l59_0, ha0, ha1, h0, call13, callz13, e13, call45, callz45, e45, -List.getElem?_map, -getElem?_pos, List.getElem?_cons_zero, map_get, -List.map_take, -List.map_drop, take_map, drop_map, upd_ne, frOf_set, frOf_get, frOf_getD, encArc, t1, t2, t7, t8, t9, hi, hwi, ht1, ht2, ht3, ht4]
            refine .ret _ _ (Or.inl ⟨_, _, rfl, (by first | rfl | assumption | simp [upd, *]), ?_⟩); exact fa_no hi (by have h9 : inR (nth l i).label 0 ((a_apply.length : Int) - 1) = false := (by simp [inR]; omega); simp [arcP, h9])
          · by_cases ht5 : (a_apply.length : Int) ≤ (nth l i).label
            · simp -implicitDefEqProofs [r59_0, r59_1, r59_2, r59_3, r59_4, r59_5, r59_6, r59_7, l59_0, ha0, ha1, h0, call13, callz13, e13, call45, callz45, e45, -List.getElem?_map, -getElem?_pos, List.getElem?_cons_zero, map_get, -List.map_take, -List.map_drop, take_map, drop_map, upd_ne, frOf_set, frOf_get, frOf_getD, encArc, t1, t2, t7, t8, t9, hi, hwi, ht1, ht2, ht3, ht4, ht5]
              refine .ret _ _ (Or.inl ⟨_, _, rfl, (by first | rfl | assumption | simp [upd, *]), ?_⟩); exact fa_no hi (by have h9 : inR (nth l i).label 0 ((a_apply.length : Int) - 1) = false := (by simp [inR]; omega); simp [arcP, h9])
            · simp -implicitDefEqProofs [r59_0, r59_1, r59_2, r59_3, r59_4, r59_5, r59_6, r59_7, l59_0, ha0, ha1, h0, call13, callz13, e13, call45, callz45, e45, -List.getElem?_map, -getElem?_pos, List.getElem?_cons_zero, map_get, -List.map_take, -List.map_drop, take_map, drop_map, upd_ne, frOf_set, frOf_get, frOf_getD, encArc, t1, t2, t7, t8, t9, hi, hwi, ht1, ht2, ht3, ht4, ht5]
              refine .go _ _ ⟨_, _, rfl, (by first | rfl | assumption | simp [upd, *]), (by first | rfl | assumption | simp [upd, *]), (by first | rfl | assumption | simp [upd, *]), (by first | rfl | assumption | simp [upd, *]), (by first | rfl | assumption | simp [upd, *]), rfl, ?_⟩; have h9 : inR (nth l i).label 0 ((a_apply.length : Int) - 1) = true := (by simp [inR]; omega)
              exact fa_succ hf (by simp [arcP, h9, ht1, ht2, ht3])
      · simp -implicitDefEqProofs [r59_0, r59_1, r59_2, r59_3, r59_4, r59_5, r59_6, r59_7, l59_0, ha0, ha1, h0, call13, callz13, e13, call45, callz45, e45, -List.getElem?_map, -getElem?_pos, List.getElem?_cons_zero, map_get, -List.map_take, -List.map_drop, take_map, drop_map, upd_ne, frOf_set, frOf_get, frOf_getD, encArc, t1, t2, t7, t8, t9, hi, hwi, ht1, ht2]
        refine .ret _ _ (Or.inl ⟨_, _, rfl, (by first | rfl | assumption | simp [upd, *]), ?_⟩); exact fa_no hi (by simp [arcP, ht1, ht2])
    · simp -implicitDefEqProofs [r59_0, r59_1, r59_2, r59_3, r59_4, r59_5, r59_6, r59_7, l59_0, ha0, ha1, h0, call13, callz13, e13, call45, callz45, e45, -List.getElem?_map, -getElem?_pos, List.getElem?_cons_zero, map_get, -List.map_take, -List.map_drop, take_map, drop_map, upd_ne, frOf_set, frOf_get, frOf_getD, encArc, t1, t2, t7, t8, t9, hi, hwi, ht1]
      refine .ret _ _ (Or.inl ⟨_, _, rfl, (by first | rfl | assumption | simp [upd, *]), ?_⟩); exact fa_no hi (by simp [arcP, ht1])
  · rintro fr S ⟨f, G, rfl, t1, t2, t7, t8, t9, rfl, hf⟩
    simp -implicitDefEqProofs [r59_0, r59_1, r59_2, r59_3, r59_4, r59_5, r59_6, r59_7, l59_0, ha0, ha1, h0, call13, callz13, e13, call45, callz45, e45, -List.getElem?_map, -getElem?_pos, List.getElem?_cons_zero, map_get, -List.map_take, -List.map_drop, take_map, drop_map, upd_ne, frOf_set, frOf_get, frOf_getD, encArc, t1, t2, t7, t8, t9]
    refine .exit _ _ _ (Or.inr ⟨_, _, rfl, (by first | rfl | assumption | simp [upd, *]), (by first | rfl | assumption | simp [upd, *]), ?_⟩)
    exact fa_all hf
theorem e59 (a_weights : Int) (a_apply : (List (List Int))) (l : (List Arc)) (ha0 : a_apply.length ≤ 1048576) (ha1 : smsLInt a_apply) (h0 : l.length ≤ 1048576) : evFL T 59 [.agg [.int .i64 a_weights, .ts .imm 1 (a_apply.map (encLInt .imm))], .ts .imm 3 (l.map encArc)] [] = some (.bool (arcsB (⟨a_weights, a_apply⟩ : Algebra) l), []) := by
  rw [evFL_at fn59 (by simp)]
  simp -implicitDefEqProofs [c59, r59_0, r59_1, r59_2, r59_3, r59_4, r59_5, r59_6, r59_7, ha0, ha1, h0, call13, callz13, e13, call45, callz45, e45, -List.getElem?_map, -getElem?_pos, List.getElem?_cons_zero, map_get, -List.map_take, -List.map_drop, take_map, drop_map, upd_ne, frOf_set, frOf_get, frOf_getD, encArc]
  generalize hr : evCL T 0 (.loop l59_0) _ _ = r
  have h : R59_0 a_weights a_apply l  r := by rw [← hr]; exact L59_0 a_weights a_apply l ha0 ha1 h0  (0) _ _ (by omega) ⟨_, _, rfl, (by simp [upd, *]), (by simp [upd, *]), (by simp [upd, *]), (by simp [upd, *]), (by simp [upd, *]), rfl, by simp⟩
  clear hr
  rcases h with h | h
  · obtain ⟨f0, G, rfl, u0_4, hf0⟩ := h
    simp -implicitDefEqProofs [r59_0, r59_1, r59_2, r59_3, r59_4, r59_5, r59_6, r59_7, ha0, ha1, h0, call13, callz13, e13, call45, callz45, e45, -List.getElem?_map, -getElem?_pos, List.getElem?_cons_zero, map_get, -List.map_take, -List.map_drop, take_map, drop_map, upd_ne, frOf_set, frOf_get, frOf_getD, encArc, u0_4, hf0, arcsB]
  obtain ⟨f0, G, rfl, u0_1, u0_2, hf0⟩ := h
  cases hq0 : (algB (⟨a_weights, a_apply⟩ : Algebra) : Bool)
  · simp -implicitDefEqProofs [r59_0, r59_1, r59_2, r59_3, r59_4, r59_5, r59_6, r59_7, ha0, ha1, h0, call13, callz13, e13, call45, callz45, e45, -List.getElem?_map, -getElem?_pos, List.getElem?_cons_zero, map_get, -List.map_take, -List.map_drop, take_map, drop_map, upd_ne, frOf_set, frOf_get, frOf_getD, encArc, u0_1, u0_2, hf0, hq0, arcsB, hf0] <;> try omega
  simp -implicitDefEqProofs [r59_0, r59_1, r59_2, r59_3, r59_4, r59_5, r59_6, r59_7, ha0, ha1, h0, call13, callz13, e13, call45, callz45, e45, -List.getElem?_map, -getElem?_pos, List.getElem?_cons_zero, map_get, -List.map_take, -List.map_drop, take_map, drop_map, upd_ne, frOf_set, frOf_get, frOf_getD, encArc, u0_1, u0_2, hf0, hq0, arcsB, hf0] <;> try omega
def hasI (l : List Int) (n : Int) : Bool := l.any fun x => decide (x = n)
theorem hasI_comm (l : List Int) (n : Int) : (l.any fun x => decide (n = x)) = hasI l n := by
  unfold hasI; congr 1; funext x; rw [Bool.eq_iff_iff]; simp [eq_comm]
theorem hasI_iff {l : List Int} {n : Int} : hasI l n = true ↔ n ∈ l := by simp [hasI]
-- spec.l1Has
@[simp] theorem call60 {m : Nat} (args : List AV) (S : St) : evCall T m (evFL T) 60 args S = lendC (evFL T 60) S (lendAll S i60.pes args) := evCall0 fn60 rfl rfl args S
@[simp] theorem callz60 (args : List AV) (S : St) : evCallFz T (evFL T) 60 args S = lendZ (evFL T 60) S i60.res (lendAll S i60.pes args) := evCallFz0 fn60 rfl rfl args S
@[simp] theorem pes60 : i60.pes = [[1], [0]] := rfl
@[simp] theorem body60 : i60.body = c60 := rfl
@[simp] theorem kind60 : i60.kind = 0 := rfl
@[simp] theorem tree60 : i60.tree = false := rfl
@[simp] theorem ntmps60 : i60.ntmps = 17 := rfl
@[simp] theorem results60 : i60.results = [(ResultVar.tmp 4)] := rfl
@[simp] theorem res60 : i60.res = [[0]] := rfl
def I60_0 (a : (List Int)) (v : Int)  (i : Nat) (fr : Fr) (S : St) : Prop := ∃ f : Nat → AV, fr = frOf 17 f ∧ f 1 = .int .i64 v ∧ f 7 = .ts .imm 1 (a.map encInt) ∧ f 8 = .int .i64 a.length ∧ f 9 = .int .i64 i ∧ S = [] ∧ ∀ j, j < i → decide (nth a j = v) = false
def R60_0 (a : (List Int)) (v : Int)  (r : Option (Ex × Fr × St)) : Prop := (∃ f : Nat → AV, r = some (.ret, frOf 17 f, []) ∧ f 4 = .bool true ∧ hasI a v = true) ∨ (∃ f : Nat → AV, r = some (.exit 0, frOf 17 f, []) ∧ hasI a v = false)
theorem L60_0 (a : (List Int)) (v : Int) (h0 : a.length ≤ 1048576)   : ∀ i fr S, i ≤ a.length → I60_0 a v  i fr S → R60_0 a v  (evCL T 0 (.loop l60_0) fr S) := by
  refine loopQ _ _ _ ?_ ?_
  · rintro i fr S hi ⟨f, rfl, t1, t7, t8, t9, rfl, hf⟩
    have hwi : IntKind.i64.wrap ((i : Int) + 1) = (i : Int) + 1 := wrap64 (by omega) (by omega)
    by_cases ht1 : nth a i = v
    · simp -implicitDefEqProofs [r60_0, r60_1, r60_2, r60_3, r60_4, r60_5, r60_6, r60_7, l60_0, h0, -List.getElem?_map, -getElem?_pos, List.getElem?_cons_zero, map_get, -List.map_take, -List.map_drop, take_map, drop_map, upd_ne, frOf_set, frOf_get, frOf_getD, encInt, t1, t7, t8, t9, hi, hwi, ht1]
      refine .ret _ _ (Or.inl ⟨_, rfl, (by first | rfl | assumption | simp [upd, *]), ?_⟩); exact any_hit hi (by simp [ht1])
    · simp -implicitDefEqProofs [r60_0, r60_1, r60_2, r60_3, r60_4, r60_5, r60_6, r60_7, l60_0, h0, -List.getElem?_map, -getElem?_pos, List.getElem?_cons_zero, map_get, -List.map_take, -List.map_drop, take_map, drop_map, upd_ne, frOf_set, frOf_get, frOf_getD, encInt, t1, t7, t8, t9, hi, hwi, ht1]
      refine .go _ _ ⟨_, rfl, (by first | rfl | assumption | simp [upd, *]), (by first | rfl | assumption | simp [upd, *]), (by first | rfl | assumption | simp [upd, *]), (by first | rfl | assumption | simp [upd, *]), rfl, ?_⟩; exact none_succ hf (by simp [ht1])
  · rintro fr S ⟨f, rfl, t1, t7, t8, t9, rfl, hf⟩
    simp -implicitDefEqProofs [r60_0, r60_1, r60_2, r60_3, r60_4, r60_5, r60_6, r60_7, l60_0, h0, -List.getElem?_map, -getElem?_pos, List.getElem?_cons_zero, map_get, -List.map_take, -List.map_drop, take_map, drop_map, upd_ne, frOf_set, frOf_get, frOf_getD, encInt, t1, t7, t8, t9]
    refine .exit _ _ _ (Or.inr ⟨_, rfl, ?_⟩)
    exact any_no hf
theorem e60 (a : (List Int)) (v : Int) (h0 : a.length ≤ 1048576) : evFL T 60 [.ts .imm 1 (a.map encInt), .int .i64 v] [] = some (.bool (hasI a v), []) := by
  rw [evFL_at fn60 (by simp)]
  simp -implicitDefEqProofs [c60, r60_0, r60_1, r60_2, r60_3, r60_4, r60_5, r60_6, r60_7, h0, -List.getElem?_map, -getElem?_pos, List.getElem?_cons_zero, map_get, -List.map_take, -List.map_drop, take_map, drop_map, upd_ne, frOf_set, frOf_get, frOf_getD, encInt]
  generalize hr : evCL T 0 (.loop l60_0) _ _ = r
  have h : R60_0 a v  r := by rw [← hr]; exact L60_0 a v h0  (0) _ _ (by omega) ⟨_, rfl, (by simp [upd, *]), (by simp [upd, *]), (by simp [upd, *]), (by simp [upd, *]), rfl, by simp⟩
  clear hr
  rcases h with h | h
  · obtain ⟨f0, rfl, u0_4, hf0⟩ := h
    simp -implicitDefEqProofs [r60_0, r60_1, r60_2, r60_3, r60_4, r60_5, r60_6, r60_7, h0, -List.getElem?_map, -getElem?_pos, List.getElem?_cons_zero, map_get, -List.map_take, -List.map_drop, take_map, drop_map, upd_ne, frOf_set, frOf_get, frOf_getD, encInt, u0_4, hf0] <;> try omega
  obtain ⟨f0, rfl, hf0⟩ := h
  simp -implicitDefEqProofs [r60_0, r60_1, r60_2, r60_3, r60_4, r60_5, r60_6, r60_7, h0, -List.getElem?_map, -getElem?_pos, List.getElem?_cons_zero, map_get, -List.map_take, -List.map_drop, take_map, drop_map, upd_ne, frOf_set, frOf_get, frOf_getD, encInt, hf0] <;> try omega
-- spec.l9Arc
@[simp] theorem call61 {m : Nat} (args : List AV) (S : St) : evCall T m (evFL T) 61 args S = lendC (evFL T 61) S (lendAll S i61.pes args) := evCall0 fn61 rfl rfl args S
@[simp] theorem callz61 (args : List AV) (S : St) : evCallFz T (evFL T) 61 args S = lendZ (evFL T 61) S i61.res (lendAll S i61.pes args) := evCallFz0 fn61 rfl rfl args S
@[simp] theorem pes61 : i61.pes = [[3], [0], [0]] := rfl
@[simp] theorem body61 : i61.body = c61 := rfl
@[simp] theorem kind61 : i61.kind = 0 := rfl
@[simp] theorem tree61 : i61.tree = false := rfl
@[simp] theorem ntmps61 : i61.ntmps = 28 := rfl
@[simp] theorem results61 : i61.results = [(ResultVar.tmp 6)] := rfl
@[simp] theorem res61 : i61.res = [[0]] := rfl
def I61_0 (l : (List Arc)) (u : Int) (v : Int)  (i : Nat) (fr : Fr) (S : St) : Prop := ∃ f : Nat → AV, ∃ G : St, fr = frOf 28 f ∧ f 1 = .int .i64 u ∧ f 2 = .int .i64 v ∧ f 9 = .ts .imm 3 (l.map encArc) ∧ f 10 = .int .i64 l.length ∧ f 11 = .int .i64 i ∧ S = G ∧ arcOf u v (l.drop i) = arcOf u v l
def R61_0 (l : (List Arc)) (u : Int) (v : Int)  (r : Option (Ex × Fr × St)) : Prop := (∃ f : Nat → AV, ∃ G : St, ∃ j : Int, r = some (.ret, frOf 28 f, G) ∧ f 6 = .int .i64 j ∧ (arcOf u v l).getD (-1) = j) ∨ (∃ f : Nat → AV, ∃ G : St, r = some (.exit 0, frOf 28 f, G) ∧ (arcOf u v l).getD (-1) = -1)
theorem L61_0 (l : (List Arc)) (u : Int) (v : Int) (h0 : l.length ≤ 1048576)   : ∀ i fr S, i ≤ l.length → I61_0 l u v  i fr S → R61_0 l u v  (evCL T 0 (.loop l61_0) fr S) := by
  refine loopQ _ _ _ ?_ ?_
  · rintro i fr S hi ⟨f, G, rfl, t1, t2, t9, t10, t11, rfl, hf⟩
    have hwi : IntKind.i64.wrap ((i : Int) + 1) = (i : Int) + 1 := wrap64 (by omega) (by omega)
    rw [drop_nth hi] at hf
    rcases hx : nth l i with ⟨xf, xt, xl⟩
    by_cases ht1 : xf = u
    · subst ht1
      by_cases ht2 : xt = v
      · subst ht2
        simp -implicitDefEqProofs [r61_0, r61_1, r61_2, r61_3, r61_4, r61_5, r61_6, r61_7, l61_0, h0, -List.getElem?_map, -getElem?_pos, List.getElem?_cons_zero, map_get, -List.map_take, -List.map_drop, take_map, drop_map, upd_ne, frOf_set, frOf_get, frOf_getD, encArc, t1, t2, t9, t10, t11, hi, hwi, hx]
        refine .ret _ _ (Or.inl ⟨_, _, _, rfl, (by first | rfl | assumption | simp [upd, *]), ?_⟩); simp [arcOf, hx] at hf; rw [← hf]; rfl
      · simp -implicitDefEqProofs [r61_0, r61_1, r61_2, r61_3, r61_4, r61_5, r61_6, r61_7, l61_0, h0, -List.getElem?_map, -getElem?_pos, List.getElem?_cons_zero, map_get, -List.map_take, -List.map_drop, take_map, drop_map, upd_ne, frOf_set, frOf_get, frOf_getD, encArc, t1, t2, t9, t10, t11, hi, hwi, hx, ht2]
        refine .go _ _ ⟨_, _, rfl, (by first | rfl | assumption | simp [upd, *]), (by first | rfl | assumption | simp [upd, *]), (by first | rfl | assumption | simp [upd, *]), (by first | rfl | assumption | simp [upd, *]), (by first | rfl | assumption | simp [upd, *]), rfl, ?_⟩; simp [arcOf, hx, ht2] at hf; exact hf
    · simp -implicitDefEqProofs [r61_0, r61_1, r61_2, r61_3, r61_4, r61_5, r61_6, r61_7, l61_0, h0, -List.getElem?_map, -getElem?_pos, List.getElem?_cons_zero, map_get, -List.map_take, -List.map_drop, take_map, drop_map, upd_ne, frOf_set, frOf_get, frOf_getD, encArc, t1, t2, t9, t10, t11, hi, hwi, hx, ht1]
      refine .go _ _ ⟨_, _, rfl, (by first | rfl | assumption | simp [upd, *]), (by first | rfl | assumption | simp [upd, *]), (by first | rfl | assumption | simp [upd, *]), (by first | rfl | assumption | simp [upd, *]), (by first | rfl | assumption | simp [upd, *]), rfl, ?_⟩; simp [arcOf, hx, ht1] at hf; exact hf
  · rintro fr S ⟨f, G, rfl, t1, t2, t9, t10, t11, rfl, hf⟩
    simp -implicitDefEqProofs [r61_0, r61_1, r61_2, r61_3, r61_4, r61_5, r61_6, r61_7, l61_0, h0, -List.getElem?_map, -getElem?_pos, List.getElem?_cons_zero, map_get, -List.map_take, -List.map_drop, take_map, drop_map, upd_ne, frOf_set, frOf_get, frOf_getD, encArc, t1, t2, t9, t10, t11]
    refine .exit _ _ _ (Or.inr ⟨_, _, rfl, ?_⟩)
    simp [arcOf] at hf; rw [← hf]; rfl
theorem e61 (l : (List Arc)) (u : Int) (v : Int) (h0 : l.length ≤ 1048576) : evFL T 61 [.ts .imm 3 (l.map encArc), .int .i64 u, .int .i64 v] [] = some (.int .i64 ((arcOf u v l).getD (-1)), []) := by
  rw [evFL_at fn61 (by simp)]
  simp -implicitDefEqProofs [c61, r61_0, r61_1, r61_2, r61_3, r61_4, r61_5, r61_6, r61_7, h0, -List.getElem?_map, -getElem?_pos, List.getElem?_cons_zero, map_get, -List.map_take, -List.map_drop, take_map, drop_map, upd_ne, frOf_set, frOf_get, frOf_getD, encArc]
  generalize hr : evCL T 0 (.loop l61_0) _ _ = r
  have h : R61_0 l u v  r := by rw [← hr]; exact L61_0 l u v h0  (0) _ _ (by omega) ⟨_, _, rfl, (by simp [upd, *]), (by simp [upd, *]), (by simp [upd, *]), (by simp [upd, *]), (by simp [upd, *]), rfl, by simp⟩
  clear hr
  rcases h with h | h
  · obtain ⟨f0, G, j, rfl, u0_6, hf0⟩ := h
    simp -implicitDefEqProofs [r61_0, r61_1, r61_2, r61_3, r61_4, r61_5, r61_6, r61_7, h0, -List.getElem?_map, -getElem?_pos, List.getElem?_cons_zero, map_get, -List.map_take, -List.map_drop, take_map, drop_map, upd_ne, frOf_set, frOf_get, frOf_getD, encArc, u0_6, hf0] <;> try omega
  obtain ⟨f0, G, rfl, hf0⟩ := h
  simp -implicitDefEqProofs [r61_0, r61_1, r61_2, r61_3, r61_4, r61_5, r61_6, r61_7, h0, -List.getElem?_map, -getElem?_pos, List.getElem?_cons_zero, map_get, -List.map_take, -List.map_drop, take_map, drop_map, upd_ne, frOf_set, frOf_get, frOf_getD, encArc, hf0] <;> try omega
def nodeP (p : List Int) (i : Nat) : Bool := inR (nth p i) 0 5 && !hasI (p.take i) (nth p i)
def nodesB (p : List Int) : Bool := inR (p.length : Int) 1 6 && allB p.length (nodeP p)
def wtGo (a : List (List Int)) (l : List Arc) (p : List Int) : Nat → Int → Option Int
  | 0, w => some w
  | k + 1, w => match arcOf (nth p k) (nth p (k + 1)) l with
    | none => none
    | some lab => wtGo a l p k (nth (nth a lab.toNat) w.toNat)
def weightOf (a : Algebra) (l : List Arc) (p : List Int) : Int × Bool := if arcsB a l = true ∧ nodesB p = true then (match wtGo a.apply l p (p.length - 1) 0 with
    | some w => (w, true)
    | none => (0, false)) else (0, false)
-- spec.WeightOf
@[simp] theorem call26 {m : Nat} (args : List AV) (S : St) : evCall T m (evFL T) 26 args S = lendC (evFL T 26) S (lendAll S i26.pes args) := evCall0 fn26 rfl rfl args S
@[simp] theorem callz26 (args : List AV) (S : St) : evCallFz T (evFL T) 26 args S = lendZ (evFL T 26) S i26.res (lendAll S i26.pes args) := evCallFz0 fn26 rfl rfl args S
@[simp] theorem pes26 : i26.pes = [[0, 1], [3], [1]] := rfl
@[simp] theorem body26 : i26.body = c26 := rfl
@[simp] theorem kind26 : i26.kind = 0 := rfl
@[simp] theorem tree26 : i26.tree = false := rfl
@[simp] theorem ntmps26 : i26.ntmps = 70 := rfl
@[simp] theorem results26 : i26.results = [(ResultVar.tmp 6), (ResultVar.tmp 7)] := rfl
@[simp] theorem res26 : i26.res = [[0], [0]] := rfl
def I26_0 (a_weights : Int) (a_apply : (List (List Int))) (l : (List Arc)) (p : (List Int))  (i : Nat) (fr : Fr) (S : St) : Prop := ∃ f : Nat → AV, fr = frOf 70 f ∧ f 1 = .ts .imm 3 (l.map encArc) ∧ f 2 = .ts .imm 1 (p.map encInt) ∧ f 3 = .ptr 0 0 0 ∧ f 23 = .ts .imm 1 (p.map encInt) ∧ f 24 = .int .i64 p.length ∧ f 25 = .int .i64 i ∧ S = [some ⟨.box, 2, [[.int .i64 a_weights, .ts .imm 1 (a_apply.map (encLInt .imm))]]⟩] ∧ allB i (nodeP p) = true
def R26_0 (a_weights : Int) (a_apply : (List (List Int))) (l : (List Arc)) (p : (List Int))  (r : Option (Ex × Fr × St)) : Prop := (∃ f : Nat → AV, r = some (.ret, frOf 70 f, [some ⟨.box, 2, [[.int .i64 a_weights, .ts .imm 1 (a_apply.map (encLInt .imm))]]⟩]) ∧ f 6 = .int .i64 0 ∧ f 7 = .bool false ∧ allB p.length (nodeP p) = false) ∨ (∃ f : Nat → AV, r = some (.exit 0, frOf 70 f, [some ⟨.box, 2, [[.int .i64 a_weights, .ts .imm 1 (a_apply.map (encLInt .imm))]]⟩]) ∧ f 1 = .ts .imm 3 (l.map encArc) ∧ f 2 = .ts .imm 1 (p.map encInt) ∧ f 3 = .ptr 0 0 0 ∧ allB p.length (nodeP p) = true)
theorem L26_0 (a_weights : Int) (a_apply : (List (List Int))) (l : (List Arc)) (p : (List Int)) (ha0 : a_apply.length ≤ 1048576) (ha1 : smsLInt a_apply) (h0 : l.length ≤ 1048576) (h1 : p.length ≤ 1048576)   : ∀ i fr S, i ≤ p.length → I26_0 a_weights a_apply l p  i fr S → R26_0 a_weights a_apply l p  (evCL T 0 (.loop l26_0) fr S) := by
  refine loopQ _ _ _ ?_ ?_
  · rintro i fr S hi ⟨f, rfl, t1, t2, t3, t23, t24, t25, rfl, hf⟩
    have hwi : IntKind.i64.wrap ((i : Int) + 1) = (i : Int) + 1 := wrap64 (by omega) (by omega)
    have hile : i ≤ p.length := Nat.le_of_lt hi
    have hmin : min i p.length = i := by omega
    have hib : i ≤ 1048576 := by omega
    by_cases ht1 : inR (nth p i) 0 5 = true
    · by_cases ht2 : hasI (p.take i) (nth p i) = true
      · simp -implicitDefEqProofs [r26_0, r26_1, r26_2, r26_3, r26_4, r26_5, r26_6, r26_7, r26_8, r26_9, r26_10, r26_11, r26_12, r26_13, r26_14, r26_15, r26_16, r26_17, l26_0, ha0, ha1, h0, h1, call45, callz45, e45, call59, callz59, e59, call60, callz60, e60, call61, callz61, e61, -List.getElem?_map, -getElem?_pos, List.getElem?_cons_zero, map_get, -List.map_take, -List.map_drop, take_map, drop_map, upd_ne, frOf_set, frOf_get, frOf_getD, encInt, encLInt, t1, t2, t3, t23, t24, t25, hi, hwi, hile, hmin, hib, ht1, ht2]
        refine .ret _ _ (Or.inl ⟨_, rfl, (by first | rfl | assumption | simp [upd, *]), (by first | rfl | assumption | simp [upd, *]), ?_⟩); exact allB_no hi (by simp [nodeP, ht2])
      · simp -implicitDefEqProofs [r26_0, r26_1, r26_2, r26_3, r26_4, r26_5, r26_6, r26_7, r26_8, r26_9, r26_10, r26_11, r26_12, r26_13, r26_14, r26_15, r26_16, r26_17, l26_0, ha0, ha1, h0, h1, call45, callz45, e45, call59, callz59, e59, call60, callz60, e60, call61, callz61, e61, -List.getElem?_map, -getElem?_pos, List.getElem?_cons_zero, map_get, -List.map_take, -List.map_drop, take_map, drop_map, upd_ne, frOf_set, frOf_get, frOf_getD, encInt, encLInt, t1, t2, t3, t23, t24, t25, hi, hwi, hile, hmin, hib, ht1, ht2]
        refine .go _ _ ⟨_, rfl, (by first | rfl | assumption | simp [upd, *]), (by first | rfl | assumption | simp [upd, *]), (by first | rfl | assumption | simp [upd, *]), (by first | rfl | assumption | simp [upd, *]), (by first | rfl | assumption | simp [upd, *]), (by first | rfl | assumption | simp [upd, *]), rfl, ?_⟩; rw [allB_succ, hf]; simp [nodeP, ht1, ht2]
    · simp -implicitDefEqProofs [r26_0, r26_1, r26_2, r26_3, r26_4, r26_5, r26_6, r26_7, r26_8, r26_9, r26_10, r26_11, r26_12, r26_13, r26_14, r26_15, r26_16, r26_17, l26_0, ha0, ha1, h0, h1, call45, callz45, e45, call59, callz59, e59, call60, callz60, e60, call61, callz61, e61, -List.getElem?_map, -getElem?_pos, List.getElem?_cons_zero, map_get, -List.map_take, -List.map_drop, take_map, drop_map, upd_ne, frOf_set, frOf_get, frOf_getD, encInt, encLInt, t1, t2, t3, t23, t24, t25, hi, hwi, hile, hmin, hib, ht1]
      refine .ret _ _ (Or.inl ⟨_, rfl, (by first | rfl | assumption | simp [upd, *]), (by first | rfl | assumption | simp [upd, *]), ?_⟩); exact allB_no hi (by simp [nodeP, ht1])
  · rintro fr S ⟨f, rfl, t1, t2, t3, t23, t24, t25, rfl, hf⟩
    simp -implicitDefEqProofs [r26_0, r26_1, r26_2, r26_3, r26_4, r26_5, r26_6, r26_7, r26_8, r26_9, r26_10, r26_11, r26_12, r26_13, r26_14, r26_15, r26_16, r26_17, l26_0, ha0, ha1, h0, h1, call45, callz45, e45, call59, callz59, e59, call60, callz60, e60, call61, callz61, e61, -List.getElem?_map, -getElem?_pos, List.getElem?_cons_zero, map_get, -List.map_take, -List.map_drop, take_map, drop_map, upd_ne, frOf_set, frOf_get, frOf_getD, encInt, encLInt, t1, t2, t3, t23, t24, t25]
    refine .exit _ _ _ (Or.inr ⟨_, rfl, (by first | rfl | assumption | simp [upd, *]), (by first | rfl | assumption | simp [upd, *]), (by first | rfl | assumption | simp [upd, *]), ?_⟩)
    first | trivial | assumption | simp [*]
def I26_1 (a_weights : Int) (a_apply : (List (List Int))) (l : (List Arc)) (p : (List Int))  (i : Nat) (fr : Fr) (S : St) : Prop := ∃ f : Nat → AV, ∃ w : Int, fr = frOf 70 f ∧ f 1 = .ts .imm 3 (l.map encArc) ∧ f 2 = .ts .imm 1 (p.map encInt) ∧ f 3 = .ptr 0 0 0 ∧ f 10 = .int .i64 w ∧ f 11 = .int .i64 ((i : Int) - 1) ∧ S = [some ⟨.box, 2, [[.int .i64 a_weights, .ts .imm 1 (a_apply.map (encLInt .imm))]]⟩] ∧ (i ≤ p.length - 1 ∧ 0 ≤ w ∧ w < a_weights ∧ wtGo a_apply l p i w = wtGo a_apply l p (p.length - 1) 0)
def R26_1 (a_weights : Int) (a_apply : (List (List Int))) (l : (List Arc)) (p : (List Int))  (r : Option (Ex × Fr × St)) : Prop := (∃ f : Nat → AV, r = some (.ret, frOf 70 f, [some ⟨.box, 2, [[.int .i64 a_weights, .ts .imm 1 (a_apply.map (encLInt .imm))]]⟩]) ∧ f 6 = .int .i64 0 ∧ f 7 = .bool false ∧ wtGo a_apply l p (p.length - 1) 0 = none) ∨ (∃ f : Nat → AV, ∃ w : Int, r = some (.exit 2, frOf 70 f, [some ⟨.box, 2, [[.int .i64 a_weights, .ts .imm 1 (a_apply.map (encLInt .imm))]]⟩]) ∧ f 10 = .int .i64 w ∧ wtGo a_apply l p (p.length - 1) 0 = some w)
theorem L26_1 (a_weights : Int) (a_apply : (List (List Int))) (l : (List Arc)) (p : (List Int)) (ha0 : a_apply.length ≤ 1048576) (ha1 : smsLInt a_apply) (h0 : l.length ≤ 1048576) (h1 : p.length ≤ 1048576)  (harcs : arcsB (⟨a_weights, a_apply⟩ : Algebra) l = true) : ∀ i fr S, I26_1 a_weights a_apply l p  i fr S → R26_1 a_weights a_apply l p  (evCL T 0 (.loop l26_1) fr S) := by
  refine loopM _ _ ?_
  rintro i fr S ⟨f, w, rfl, t1, t2, t3, t10, t11, rfl, hf⟩
  rcases i with _ | i
  · simp -implicitDefEqProofs [r26_0, r26_1, r26_2, r26_3, r26_4, r26_5, r26_6, r26_7, r26_8, r26_9, r26_10, r26_11, r26_12, r26_13, r26_14, r26_15, r26_16, r26_17, l26_1, ha0, ha1, h0, h1, call45, callz45, e45, call59, callz59, e59, call60, callz60, e60, call61, callz61, e61, -List.getElem?_map, -getElem?_pos, List.getElem?_cons_zero, map_get, -List.map_take, -List.map_drop, take_map, drop_map, upd_ne, frOf_set, frOf_get, frOf_getD, encInt, encLInt, t1, t2, t3, t10, t11]
    refine .exit _ _ _ (Or.inr ⟨_, _, rfl, (by first | rfl | assumption | simp [upd, *]), ?_⟩); simpa [wtGo] using hf.2.2.2.symm
  · obtain ⟨hk, hz, hw, hg⟩ := hf
    have hk1 : i + 1 < p.length := by omega
    have hk0 : i < p.length := by omega
    have hs : (i : Int) + 1 < (p.length : Int) := by omega
    have hz1 : (0 : Int) ≤ (i : Int) + 1 := by omega
    have hw0 : IntKind.i64.wrap ((i : Int) - 1) = (i : Int) - 1 := wrap64 (by omega) (by omega)
    have hw1 : IntKind.i64.wrap ((i : Int) + 1) = (i : Int) + 1 := wrap64 (by omega) (by omega)
    simp only [wtGo] at hg
    cases hq : arcOf (nth p i) (nth p (i + 1)) l with
    | none =>
      simp only [hq] at hg
      simp -implicitDefEqProofs [r26_0, r26_1, r26_2, r26_3, r26_4, r26_5, r26_6, r26_7, r26_8, r26_9, r26_10, r26_11, r26_12, r26_13, r26_14, r26_15, r26_16, r26_17, l26_1, ha0, ha1, h0, h1, call45, callz45, e45, call59, callz59, e59, call60, callz60, e60, call61, callz61, e61, -List.getElem?_map, -getElem?_pos, List.getElem?_cons_zero, map_get, -List.map_take, -List.map_drop, take_map, drop_map, upd_ne, frOf_set, frOf_get, frOf_getD, encInt, encLInt, t1, t2, t3, t10, t11, hk1, hk0, hs, hz1, hw0, hw1, hq]
      refine .ret _ _ (Or.inl ⟨_, rfl, (by first | rfl | assumption | simp [upd, *]), (by first | rfl | assumption | simp [upd, *]), ?_⟩); exact hg.symm
    | some lab =>
      simp only [hq] at hg
      obtain ⟨hl0, hl1⟩ := arcsB_label harcs hq
      dsimp only at hl1
      have halg : algB (⟨a_weights, a_apply⟩ : Algebra) = true := by simp only [arcsB, Bool.and_eq_true] at harcs; exact harcs.1.1
      have hl2 : lab.toNat < a_apply.length := by omega
      obtain ⟨hr0, hr1, hr2, hr3⟩ := alg_row halg hl2
      dsimp only at hr0 hr1 hr2 hr3
      have hw2 : w.toNat < (nth a_apply lab.toNat).length := by omega
      have hw3 : w < ((nth a_apply lab.toNat).length : Int) := by omega
      have hr4 := hr3 _ hw2
      have hnl : ¬ lab < 0 := by omega
      simp -implicitDefEqProofs [r26_0, r26_1, r26_2, r26_3, r26_4, r26_5, r26_6, r26_7, r26_8, r26_9, r26_10, r26_11, r26_12, r26_13, r26_14, r26_15, r26_16, r26_17, l26_1, ha0, ha1, h0, h1, call45, callz45, e45, call59, callz59, e59, call60, callz60, e60, call61, callz61, e61, -List.getElem?_map, -getElem?_pos, List.getElem?_cons_zero, map_get, -List.map_take, -List.map_drop, take_map, drop_map, upd_ne, frOf_set, frOf_get, frOf_getD, encInt, encLInt, t1, t2, t3, t10, t11, hk1, hk0, hs, hz1, hw0, hw1, hq, hl0, hl1, hl2, hw2, hw3, hz, hnl]
      refine .go _ _ (i) (by omega) ⟨_, _, rfl, (by first | rfl | assumption | simp [upd, *]), (by first | rfl | assumption | simp [upd, *]), (by first | rfl | assumption | simp [upd, *]), (by first | rfl | assumption | simp [upd, *]), (by first | rfl | assumption | simp [upd, *]), rfl, ?_⟩; exact ⟨by omega, hr4.1, hr4.2, hg⟩
theorem e26 (a_weights : Int) (a_apply : (List (List Int))) (l : (List Arc)) (p : (List Int)) (ha0 : a_apply.length ≤ 1048576) (ha1 : smsLInt a_apply) (h0 : l.length ≤ 1048576) (h1 : p.length ≤ 1048576) : evFL T 26 [.agg [.int .i64 a_weights, .ts .imm 1 (a_apply.map (encLInt .imm))], .ts .imm 3 (l.map encArc), .ts .imm 1 (p.map encInt)] [] = some (.tup [.int .i64 (weightOf (⟨a_weights, a_apply⟩ : Algebra) l p).1, .bool (weightOf (⟨a_weights, a_apply⟩ : Algebra) l p).2], []) := by
  rw [evFL_at fn26 (by simp)]
  cases hg : arcsB (⟨a_weights, a_apply⟩ : Algebra) l
  · simp -implicitDefEqProofs [c26, r26_0, r26_1, r26_2, r26_3, r26_4, r26_5, r26_6, r26_7, r26_8, r26_9, r26_10, r26_11, r26_12, r26_13, r26_14, r26_15, r26_16, r26_17, ha0, ha1, h0, h1, call45, callz45, e45, call59, callz59, e59, call60, callz60, e60, call61, callz61, e61, -List.getElem?_map, -getElem?_pos, List.getElem?_cons_zero, map_get, -List.map_take, -List.map_drop, take_map, drop_map, upd_ne, frOf_set, frOf_get, frOf_getD, encInt, encLInt, hg, weightOf]
  cases hn : inR (p.length : Int) 1 6
  · simp -implicitDefEqProofs [c26, r26_0, r26_1, r26_2, r26_3, r26_4, r26_5, r26_6, r26_7, r26_8, r26_9, r26_10, r26_11, r26_12, r26_13, r26_14, r26_15, r26_16, r26_17, ha0, ha1, h0, h1, call45, callz45, e45, call59, callz59, e59, call60, callz60, e60, call61, callz61, e61, -List.getElem?_map, -getElem?_pos, List.getElem?_cons_zero, map_get, -List.map_take, -List.map_drop, take_map, drop_map, upd_ne, frOf_set, frOf_get, frOf_getD, encInt, encLInt, hg, hn, weightOf, nodesB]
  have hn1 : 1 ≤ (p.length : Int) ∧ (p.length : Int) ≤ 6 := by simpa [inR] using hn
  have hwl : IntKind.i64.wrap ((p.length : Int) - 2) = ((p.length - 1 : Nat) : Int) - 1 := by rw [wrap64 (by omega) (by omega)]; omega
  have halg : algB (⟨a_weights, a_apply⟩ : Algebra) = true := by simp only [arcsB, Bool.and_eq_true] at hg; exact hg.1.1
  have hwt : 2 ≤ a_weights := by simp only [algB, inR, Bool.and_eq_true, decide_eq_true_eq] at halg; exact halg.1.1.1
  simp -implicitDefEqProofs [c26, r26_0, r26_1, r26_2, r26_3, r26_4, r26_5, r26_6, r26_7, r26_8, r26_9, r26_10, r26_11, r26_12, r26_13, r26_14, r26_15, r26_16, r26_17, ha0, ha1, h0, h1, call45, callz45, e45, call59, callz59, e59, call60, callz60, e60, call61, callz61, e61, -List.getElem?_map, -getElem?_pos, List.getElem?_cons_zero, map_get, -List.map_take, -List.map_drop, take_map, drop_map, upd_ne, frOf_set, frOf_get, frOf_getD, encInt, encLInt, hg, hn]
  generalize hr : evCL T 0 (.loop l26_0) _ _ = r
  have h : R26_0 a_weights a_apply l p  r := by rw [← hr]; exact L26_0 a_weights a_apply l p ha0 ha1 h0 h1  (0) _ _ (by omega) ⟨_, rfl, (by simp [upd, *]), (by simp [upd, *]), (by simp [upd, *]), (by simp [upd, *]), (by simp [upd, *]), (by simp [upd, *]), rfl, by first | trivial | assumption | simp⟩
  clear hr
  rcases h with h | h
  · obtain ⟨f0, rfl, u0_6, u0_7, hf0⟩ := h
    simp -implicitDefEqProofs [r26_0, r26_1, r26_2, r26_3, r26_4, r26_5, r26_6, r26_7, r26_8, r26_9, r26_10, r26_11, r26_12, r26_13, r26_14, r26_15, r26_16, r26_17, ha0, ha1, h0, h1, call45, callz45, e45, call59, callz59, e59, call60, callz60, e60, call61, callz61, e61, -List.getElem?_map, -getElem?_pos, List.getElem?_cons_zero, map_get, -List.map_take, -List.map_drop, take_map, drop_map, upd_ne, frOf_set, frOf_get, frOf_getD, encInt, encLInt, u0_6, u0_7, hf0, weightOf, nodesB]
  obtain ⟨f0, rfl, u0_1, u0_2, u0_3, hf0⟩ := h
  simp -implicitDefEqProofs [r26_0, r26_1, r26_2, r26_3, r26_4, r26_5, r26_6, r26_7, r26_8, r26_9, r26_10, r26_11, r26_12, r26_13, r26_14, r26_15, r26_16, r26_17, ha0, ha1, h0, h1, call45, callz45, e45, call59, callz59, e59, call60, callz60, e60, call61, callz61, e61, -List.getElem?_map, -getElem?_pos, List.getElem?_cons_zero, map_get, -List.map_take, -List.map_drop, take_map, drop_map, upd_ne, frOf_set, frOf_get, frOf_getD, encInt, encLInt, u0_1, u0_2, u0_3, hf0, hwl, hf0]
  generalize hr : evCL T 0 (.loop l26_1) _ _ = r
  have h : R26_1 a_weights a_apply l p  r := by rw [← hr]; exact L26_1 a_weights a_apply l p ha0 ha1 h0 h1 hg (p.length - 1) _ _ ⟨_, (0), rfl, (by simp [upd, *]), (by simp [upd, *]), (by simp [upd, *]), (by simp [upd, *]), (by simp [upd, *]), rfl, ⟨by omega, by omega, by omega, rfl⟩⟩
  clear hr
  rcases h with h | h
  · obtain ⟨f1, rfl, u1_6, u1_7, hf1⟩ := h
    simp -implicitDefEqProofs [r26_0, r26_1, r26_2, r26_3, r26_4, r26_5, r26_6, r26_7, r26_8, r26_9, r26_10, r26_11, r26_12, r26_13, r26_14, r26_15, r26_16, r26_17, ha0, ha1, h0, h1, call45, callz45, e45, call59, callz59, e59, call60, callz60, e60, call61, callz61, e61, -List.getElem?_map, -getElem?_pos, List.getElem?_cons_zero, map_get, -List.map_take, -List.map_drop, take_map, drop_map, upd_ne, frOf_set, frOf_get, frOf_getD, encInt, encLInt, u1_6, u1_7, hf1, weightOf, nodesB, hg, hn, hf0]
  obtain ⟨f1, w, rfl, u1_10, hf1⟩ := h
  simp -implicitDefEqProofs [r26_0, r26_1, r26_2, r26_3, r26_4, r26_5, r26_6, r26_7, r26_8, r26_9, r26_10, r26_11, r26_12, r26_13, r26_14, r26_15, r26_16, r26_17, ha0, ha1, h0, h1, call45, callz45, e45, call59, callz59, e59, call60, callz60, e60, call61, callz61, e61, -List.getElem?_map, -getElem?_pos, List.getElem?_cons_zero, map_get, -List.map_take, -List.map_drop, take_map, drop_map, upd_ne, frOf_set, frOf_get, frOf_getD, encInt, encLInt, u0_1, u0_2, u0_3, u1_10, hf0, hf1, weightOf, nodesB, hg, hn]
-- laws.toArc
@[simp] theorem call62 {m : Nat} (args : List AV) (S : St) : evCall T m (evFL T) 62 args S = lendC (evFL T 62) S (lendAll S i62.pes args) := evCall0 fn62 rfl rfl args S
@[simp] theorem callz62 (args : List AV) (S : St) : evCallFz T (evFL T) 62 args S = lendZ (evFL T 62) S i62.res (lendAll S i62.pes args) := evCallFz0 fn62 rfl rfl args S
@[simp] theorem pes62 : i62.pes = [[0, 0, 0]] := rfl
@[simp] theorem body62 : i62.body = c62 := rfl
@[simp] theorem kind62 : i62.kind = 0 := rfl
@[simp] theorem tree62 : i62.tree = false := rfl
@[simp] theorem ntmps62 : i62.ntmps = 14 := rfl
@[simp] theorem results62 : i62.results = [(ResultVar.cell 2 75)] := rfl
@[simp] theorem res62 : i62.res = [[0, 0, 0]] := rfl
theorem e62 (a_from_ : Int) (a_to : Int) (a_label : Int)  : evFL T 62 [.agg [.int .i64 a_from_, .int .i64 a_to, .int .i64 a_label]] [] = some (.agg [.int .i64 a_from_, .int .i64 a_to, .int .i64 a_label], []) := by
  rw [evFL_at fn62 (by simp)]
  all_goals simp -implicitDefEqProofs [c62, r62_0, r62_1, r62_2, r62_3, r62_4, r62_5, -List.getElem?_map, -getElem?_pos, List.getElem?_cons_zero, map_get, -List.map_take, -List.map_drop, take_map, drop_map, upd_ne, frOf_set, frOf_get, frOf_getD]
theorem fset27 {a : (List Arc)} {i : Nat} (h : i < a.length) : (filled encArc [.int .i64 0, .int .i64 0, .int .i64 0] a i).set i [.int .i64 (nth a i).from_, .int .i64 (nth a i).to, .int .i64 (nth a i).label] = filled encArc [.int .i64 0, .int .i64 0, .int .i64 0] a (i + 1) := filled_set h
-- laws.toArcS
@[simp] theorem call27 {m : Nat} (args : List AV) (S : St) : evCall T m (evFL T) 27 args S = lendC (evFL T 27) S (lendAll S i27.pes args) := evCall0 fn27 rfl rfl args S
@[simp] theorem callz27 (args : List AV) (S : St) : evCallFz T (evFL T) 27 args S = lendZ (evFL T 27) S i27.res (lendAll S i27.pes args) := evCallFz0 fn27 rfl rfl args S
@[simp] theorem pes27 : i27.pes = [[3]] := rfl
@[simp] theorem body27 : i27.body = c27 := rfl
@[simp] theorem kind27 : i27.kind = 0 := rfl
@[simp] theorem tree27 : i27.tree = false := rfl
@[simp] theorem ntmps27 : i27.ntmps = 23 := rfl
@[simp] theorem results27 : i27.results = [(ResultVar.tmp 2)] := rfl
@[simp] theorem res27 : i27.res = [[3]] := rfl
def I27_0 (a : (List Arc))  (i : Nat) (fr : Fr) (S : St) : Prop := ∃ f : Nat → AV, fr = frOf 23 f ∧ f 0 = .ts .imm 3 (a.map encArc) ∧ f 3 = .sl 0 0 a.length ∧ f 4 = .int .i64 i ∧ S = [some ⟨.arr, 3, filled encArc [.int .i64 0, .int .i64 0, .int .i64 0] a i⟩] ∧ True
def R27_0 (a : (List Arc))  (r : Option (Ex × Fr × St)) : Prop := (∃ f : Nat → AV, r = some (.exit 0, frOf 23 f, [some ⟨.arr, 3, filled encArc [.int .i64 0, .int .i64 0, .int .i64 0] a a.length⟩]) ∧ f 3 = .sl 0 0 a.length ∧ True)
theorem L27_0 (a : (List Arc)) (ha0 : a.length ≤ 1048576)   : ∀ i fr S, i ≤ a.length → I27_0 a  i fr S → R27_0 a  (evCL T 0 (.loop l27_0) fr S) := by
  refine loopQ _ _ _ ?_ ?_
  · rintro i fr S hi ⟨f, rfl, t0, t3, t4, rfl, hf⟩
    have hm : (a.length : Int) ≤ 4294967296 := by omega
    have hm1 : a.length ≤ 4294967296 := by omega
    have hwi : IntKind.i64.wrap ((i : Int) + 1) = (i : Int) + 1 := wrap64 (by omega) (by omega)
    all_goals simp -implicitDefEqProofs [r27_0, r27_1, r27_2, r27_3, r27_4, r27_5, r27_6, l27_0, ha0, call62, callz62, e62, -List.getElem?_map, -getElem?_pos, List.getElem?_cons_zero, map_get, -List.map_take, -List.map_drop, take_map, drop_map, upd_ne, frOf_set, frOf_get, frOf_getD, encArc, hm, hm1, fset27, filled_get, t0, t3, t4, hi, hwi]
    all_goals first | (refine .go _ _ ⟨_, rfl, (by first | rfl | assumption | simp [upd, *]), (by first | rfl | assumption | simp [upd, *]), (by first | rfl | assumption | simp [upd, *]), rfl, ?_⟩; first | trivial | assumption | simp [*]) | (refine .exit _ _ _ ⟨_, rfl, (by first | rfl | assumption | simp [upd, *]), ?_⟩; first | trivial | assumption | simp [*])
  · rintro fr S ⟨f, rfl, t0, t3, t4, rfl, hf⟩
    have hm : (a.length : Int) ≤ 4294967296 := by omega
    have hm1 : a.length ≤ 4294967296 := by omega
    simp -implicitDefEqProofs [r27_0, r27_1, r27_2, r27_3, r27_4, r27_5, r27_6, l27_0, ha0, call62, callz62, e62, -List.getElem?_map, -getElem?_pos, List.getElem?_cons_zero, map_get, -List.map_take, -List.map_drop, take_map, drop_map, upd_ne, frOf_set, frOf_get, frOf_getD, encArc, hm, hm1, fset27, filled_get, t0, t3, t4]
    refine .exit _ _ _ ⟨_, rfl, (by first | rfl | assumption | simp [upd, *]), ?_⟩
    first | trivial | assumption | simp [*]
theorem e27 (a : (List Arc)) (ha0 : a.length ≤ 1048576) : evFL T 27 [.ts .imm 3 (a.map encArc)] [] = some (.sl 0 0 a.length, [some ⟨.arr, 3, a.map encArc⟩]) := by
  rw [evFL_at fn27 (by simp)]
  have hm : (a.length : Int) ≤ 4294967296 := by omega
  have hm1 : a.length ≤ 4294967296 := by omega
  simp -implicitDefEqProofs [c27, r27_0, r27_1, r27_2, r27_3, r27_4, r27_5, r27_6, ha0, call62, callz62, e62, -List.getElem?_map, -getElem?_pos, List.getElem?_cons_zero, map_get, -List.map_take, -List.map_drop, take_map, drop_map, upd_ne, frOf_set, frOf_get, frOf_getD, encArc, hm, hm1]
  generalize hr : evCL T 0 (.loop l27_0) _ _ = r
  have h : R27_0 a  r := by rw [← hr]; exact L27_0 a ha0  (0) _ _ (by omega) ⟨_, rfl, (by simp [upd, *]), (by simp [upd, *]), (by simp [upd, *]), by simp [← filled_zero], by first | trivial | assumption | simp⟩
  clear hr
  obtain ⟨f0, rfl, u0_3, hf0⟩ := h
  simp -implicitDefEqProofs [r27_0, r27_1, r27_2, r27_3, r27_4, r27_5, r27_6, ha0, call62, callz62, e62, -List.getElem?_map, -getElem?_pos, List.getElem?_cons_zero, map_get, -List.map_take, -List.map_drop, take_map, drop_map, upd_ne, frOf_set, frOf_get, frOf_getD, encArc, hm, hm1, u0_3, hf0, filled_end]
-- impl.within
@[simp] theorem call48 {m : Nat} (args : List AV) (S : St) : evCall T m (evFL T) 48 args S = lendC (evFL T 48) S (lendAll S i48.pes args) := evCall0 fn48 rfl rfl args S
@[simp] theorem callz48 (args : List AV) (S : St) : evCallFz T (evFL T) 48 args S = lendZ (evFL T 48) S i48.res (lendAll S i48.pes args) := evCallFz0 fn48 rfl rfl args S
@[simp] theorem pes48 : i48.pes = [[0], [0], [0]] := rfl
@[simp] theorem body48 : i48.body = c48 := rfl
@[simp] theorem kind48 : i48.kind = 0 := rfl
@[simp] theorem tree48 : i48.tree = false := rfl
@[simp] theorem ntmps48 : i48.ntmps = 15 := rfl
@[simp] theorem results48 : i48.results = [(ResultVar.tmp 6)] := rfl
@[simp] theorem res48 : i48.res = [[0]] := rfl
theorem e48 (a : Int) (b : Int) (c : Int)  : evFL T 48 [.int .i64 a, .int .i64 b, .int .i64 c] [] = some (.bool (inR a b c), []) := by
  rw [evFL_at fn48 (by simp)]
  by_cases hc0 : b ≤ a
  all_goals simp -implicitDefEqProofs [c48, r48_0, r48_1, -List.getElem?_map, -getElem?_pos, List.getElem?_cons_zero, map_get, -List.map_take, -List.map_drop, take_map, drop_map, upd_ne, frOf_set, frOf_get, frOf_getD, inR, hc0]
-- slices.IndexFunc[[][]int,[]int]
@[simp] theorem call77 {m : Nat} (args : List AV) (S : St) : evCall T m (evFL T) 77 args S = lendC (evFL T 77) S (lendAll S i77.pes args) := evCall0 fn77 rfl rfl args S
@[simp] theorem callz77 (args : List AV) (S : St) : evCallFz T (evFL T) 77 args S = lendZ (evFL T 77) S i77.res (lendAll S i77.pes args) := evCallFz0 fn77 rfl rfl args S
@[simp] theorem pes77 : i77.pes = [[1], [0]] := rfl
@[simp] theorem body77 : i77.body = c77 := rfl
@[simp] theorem kind77 : i77.kind = 0 := rfl
@[simp] theorem tree77 : i77.tree = false := rfl
@[simp] theorem ntmps77 : i77.ntmps = 19 := rfl
@[simp] theorem results77 : i77.results = [(ResultVar.tmp 4)] := rfl
@[simp] theorem res77 : i77.res = [[0]] := rfl
def I77_0 (a : (List (List Int))) (g : Nat) (caps : List AV) (p : (List Int) → Bool)  (i : Nat) (fr : Fr) (S : St) : Prop := ∃ f : Nat → AV, fr = frOf 19 f ∧ f 0 = .ts .imm 1 (a.map (encLInt .imm)) ∧ f 1 = .fn g caps ∧ f 7 = .int .i64 a.length ∧ f 8 = .int .i64 i ∧ S = [] ∧ ∀ j, j < i → p (nth a j) = false
def R77_0 (a : (List (List Int))) (g : Nat) (caps : List AV) (p : (List Int) → Bool)  (r : Option (Ex × Fr × St)) : Prop := (∃ f : Nat → AV, ∃ j : Int, r = some (.ret, frOf 19 f, []) ∧ f 4 = .int .i64 j ∧ idxF p a = j) ∨ (∃ f : Nat → AV, r = some (.exit 0, frOf 19 f, []) ∧ idxF p a = -1)
theorem L77_0 (a : (List (List Int))) (g : Nat) (caps : List AV) (p : (List Int) → Bool) (hp : ∀ x ∈ a, ∀ (m : Nat) (S : St), evCall T m (evFL T) g (.ts .imm 1 (x.map encInt) :: caps) S = some (.bool (p x), S)) (hn : a.length ≤ 9223372036854775807)   : ∀ i fr S, i ≤ a.length → I77_0 a g caps p  i fr S → R77_0 a g caps p  (evCL T 0 (.loop l77_0) fr S) := by
  refine loopQ _ _ _ ?_ ?_
  · rintro i fr S hi ⟨f, rfl, t0, t1, t7, t8, rfl, hf⟩
    have hwi : IntKind.i64.wrap ((i : Int) + 1) = (i : Int) + 1 := wrap64 (by omega) (by omega)
    have hpi := hp (nth a i) (nth_mem hi) 0
    cases hc : p (nth a i)
    · simp -implicitDefEqProofs [r77_0, r77_1, r77_2, r77_3, r77_4, r77_5, r77_6, r77_7, l77_0, hp, hn, -List.getElem?_map, -getElem?_pos, List.getElem?_cons_zero, map_get, -List.map_take, -List.map_drop, take_map, drop_map, upd_ne, frOf_set, frOf_get, frOf_getD, encLInt, t0, t1, t7, t8, hi, hwi, hpi, hc]
      refine .go _ _ ⟨_, rfl, (by first | rfl | assumption | simp [upd, *]), (by first | rfl | assumption | simp [upd, *]), (by first | rfl | assumption | simp [upd, *]), (by first | rfl | assumption | simp [upd, *]), rfl, ?_⟩; exact none_succ hf hc
    · simp -implicitDefEqProofs [r77_0, r77_1, r77_2, r77_3, r77_4, r77_5, r77_6, r77_7, l77_0, hp, hn, -List.getElem?_map, -getElem?_pos, List.getElem?_cons_zero, map_get, -List.map_take, -List.map_drop, take_map, drop_map, upd_ne, frOf_set, frOf_get, frOf_getD, encLInt, t0, t1, t7, t8, hi, hwi, hpi, hc]
      refine .ret _ _ (Or.inl ⟨_, _, rfl, (by first | rfl | assumption | simp [upd, *]), ?_⟩); exact idxF_hit hi hf hc
  · rintro fr S ⟨f, rfl, t0, t1, t7, t8, rfl, hf⟩
    simp -implicitDefEqProofs [r77_0, r77_1, r77_2, r77_3, r77_4, r77_5, r77_6, r77_7, l77_0, hp, hn, -List.getElem?_map, -getElem?_pos, List.getElem?_cons_zero, map_get, -List.map_take, -List.map_drop, take_map, drop_map, upd_ne, frOf_set, frOf_get, frOf_getD, encLInt, t0, t1, t7, t8]
    refine .exit _ _ _ (Or.inr ⟨_, rfl, ?_⟩)
    exact idxF_miss hf
theorem e77 (a : (List (List Int))) (g : Nat) (caps : List AV) (p : (List Int) → Bool) (hp : ∀ x ∈ a, ∀ (m : Nat) (S : St), evCall T m (evFL T) g (.ts .imm 1 (x.map encInt) :: caps) S = some (.bool (p x), S)) (hn : a.length ≤ 9223372036854775807) : evFL T 77 [.ts .imm 1 (a.map (encLInt .imm)), .fn g caps] [] = some (.int .i64 (idxF p a), []) := by
  rw [evFL_at fn77 (by simp)]
  simp -implicitDefEqProofs [c77, r77_0, r77_1, r77_2, r77_3, r77_4, r77_5, r77_6, r77_7, hp, hn, -List.getElem?_map, -getElem?_pos, List.getElem?_cons_zero, map_get, -List.map_take, -List.map_drop, take_map, drop_map, upd_ne, frOf_set, frOf_get, frOf_getD, encLInt]
  generalize hr : evCL T 0 (.loop l77_0) _ _ = r
  have h : R77_0 a g caps p  r := by rw [← hr]; exact L77_0 a g caps p hp hn  (0) _ _ (by omega) ⟨_, rfl, (by simp [upd, *]), (by simp [upd, *]), (by simp [upd, *]), (by simp [upd, *]), rfl, by simp⟩
  clear hr
  rcases h with h | h
  · obtain ⟨f0, j, rfl, u0_4, hf0⟩ := h
    simp -implicitDefEqProofs [r77_0, r77_1, r77_2, r77_3, r77_4, r77_5, r77_6, r77_7, hp, hn, -List.getElem?_map, -getElem?_pos, List.getElem?_cons_zero, map_get, -List.map_take, -List.map_drop, take_map, drop_map, upd_ne, frOf_set, frOf_get, frOf_getD, encLInt, u0_4, hf0] <;> try omega
  obtain ⟨f0, rfl, hf0⟩ := h
  simp -implicitDefEqProofs [r77_0, r77_1, r77_2, r77_3, r77_4, r77_5, r77_6, r77_7, hp, hn, -List.getElem?_map, -getElem?_pos, List.getElem?_cons_zero, map_get, -List.map_take, -List.map_drop, take_map, drop_map, upd_ne, frOf_set, frOf_get, frOf_getD, encLInt, hf0] <;> try omega
-- slices.ContainsFunc[[][]int,[]int]
@[simp] theorem call49 {m : Nat} (args : List AV) (S : St) : evCall T m (evFL T) 49 args S = lendC (evFL T 49) S (lendAll S i49.pes args) := evCall0 fn49 rfl rfl args S
@[simp] theorem callz49 (args : List AV) (S : St) : evCallFz T (evFL T) 49 args S = lendZ (evFL T 49) S i49.res (lendAll S i49.pes args) := evCallFz0 fn49 rfl rfl args S
@[simp] theorem pes49 : i49.pes = [[1], [0]] := rfl
@[simp] theorem body49 : i49.body = c49 := rfl
@[simp] theorem kind49 : i49.kind = 0 := rfl
@[simp] theorem tree49 : i49.tree = false := rfl
@[simp] theorem ntmps49 : i49.ntmps = 9 := rfl
@[simp] theorem results49 : i49.results = [(ResultVar.tmp 4)] := rfl
@[simp] theorem res49 : i49.res = [[0]] := rfl
theorem e49 (a : (List (List Int))) (g : Nat) (caps : List AV) (p : (List Int) → Bool) (hp : ∀ x ∈ a, ∀ (m : Nat) (S : St), evCall T m (evFL T) g (.ts .imm 1 (x.map encInt) :: caps) S = some (.bool (p x), S)) (hn : a.length ≤ 9223372036854775807) (hcaps : ∀ S, mapO (lendPtr S) caps = some caps) : evFL T 49 [.ts .imm 1 (a.map (encLInt .imm)), .fn g caps] [] = some (.bool (a.any p), []) := by
  rw [evFL_at fn49 (by simp)]
  have he := e77 a g caps p hp hn
  all_goals simp -implicitDefEqProofs [c49, r49_0, r49_1, hp, hn, hcaps, call77, callz77, e77, -List.getElem?_map, -getElem?_pos, List.getElem?_cons_zero, map_get, -List.map_take, -List.map_drop, take_map, drop_map, upd_ne, frOf_set, frOf_get, frOf_getD, he, idxF_any]
-- (impl.Algebra).worst
@[simp] theorem call51 {m : Nat} (args : List AV) (S : St) : evCall T m (evFL T) 51 args S = lendC (evFL T 51) S (lendAll S i51.pes args) := evCall0 fn51 rfl rfl args S
@[simp] theorem callz51 (args : List AV) (S : St) : evCallFz T (evFL T) 51 args S = lendZ (evFL T 51) S i51.res (lendAll S i51.pes args) := evCallFz0 fn51 rfl rfl args S
@[simp] theorem pes51 : i51.pes = [[0, 1]] := rfl
@[simp] theorem body51 : i51.body = c51 := rfl
@[simp] theorem kind51 : i51.kind = 0 := rfl
@[simp] theorem tree51 : i51.tree = false := rfl
@[simp] theorem ntmps51 : i51.ntmps = 6 := rfl
@[simp] theorem results51 : i51.results = [(ResultVar.tmp 2)] := rfl
@[simp] theorem res51 : i51.res = [[0]] := rfl
theorem e51 (a_weights : Int) (a_apply : (List (List Int))) (h1 : 2 ≤ a_weights) (h2 : a_weights ≤ 12) : evFL T 51 [.agg [.int .i64 a_weights, .ts .imm 1 (a_apply.map (encLInt .imm))]] [] = some (.int .i64 (a_weights - 1), []) := by
  rw [evFL_at fn51 (by simp)]
  have hwn : IntKind.i64.wrap (a_weights - 1) = a_weights - 1 := wrap64 (by omega) (by omega)
  all_goals simp -implicitDefEqProofs [c51, r51_0, r51_1, h1, h2, -List.getElem?_map, -getElem?_pos, List.getElem?_cons_zero, map_get, -List.map_take, -List.map_drop, take_map, drop_map, upd_ne, frOf_set, frOf_get, frOf_getD, hwn]
-- slices.IndexFunc[[]int,int]
@[simp] theorem call78 {m : Nat} (args : List AV) (S : St) : evCall T m (evFL T) 78 args S = lendC (evFL T 78) S (lendAll S i78.pes args) := evCall0 fn78 rfl rfl args S
@[simp] theorem callz78 (args : List AV) (S : St) : evCallFz T (evFL T) 78 args S = lendZ (evFL T 78) S i78.res (lendAll S i78.pes args) := evCallFz0 fn78 rfl rfl args S
@[simp] theorem pes78 : i78.pes = [[1], [0]] := rfl
@[simp] theorem body78 : i78.body = c78 := rfl
@[simp] theorem kind78 : i78.kind = 0 := rfl
@[simp] theorem tree78 : i78.tree = false := rfl
@[simp] theorem ntmps78 : i78.ntmps = 19 := rfl
@[simp] theorem results78 : i78.results = [(ResultVar.tmp 4)] := rfl
@[simp] theorem res78 : i78.res = [[0]] := rfl
def I78_0 (a : (List Int)) (g : Nat) (caps : List AV) (p : Int → Bool)  (i : Nat) (fr : Fr) (S : St) : Prop := ∃ f : Nat → AV, fr = frOf 19 f ∧ f 0 = .ts .imm 1 (a.map encInt) ∧ f 1 = .fn g caps ∧ f 7 = .int .i64 a.length ∧ f 8 = .int .i64 i ∧ S = [] ∧ ∀ j, j < i → p (nth a j) = false
def R78_0 (a : (List Int)) (g : Nat) (caps : List AV) (p : Int → Bool)  (r : Option (Ex × Fr × St)) : Prop := (∃ f : Nat → AV, ∃ j : Int, r = some (.ret, frOf 19 f, []) ∧ f 4 = .int .i64 j ∧ idxF p a = j) ∨ (∃ f : Nat → AV, r = some (.exit 0, frOf 19 f, []) ∧ idxF p a = -1)
theorem L78_0 (a : (List Int)) (g : Nat) (caps : List AV) (p : Int → Bool) (hp : ∀ x ∈ a, ∀ (m : Nat) (S : St), evCall T m (evFL T) g (.int .i64 x :: caps) S = some (.bool (p x), S)) (hn : a.length ≤ 9223372036854775807)   : ∀ i fr S, i ≤ a.length → I78_0 a g caps p  i fr S → R78_0 a g caps p  (evCL T 0 (.loop l78_0) fr S) := by
  refine loopQ _ _ _ ?_ ?_
  · rintro i fr S hi ⟨f, rfl, t0, t1, t7, t8, rfl, hf⟩
    have hwi : IntKind.i64.wrap ((i : Int) + 1) = (i : Int) + 1 := wrap64 (by omega) (by omega)
    have hpi := hp (nth a i) (nth_mem hi) 0
    cases hc : p (nth a i)
    · simp -implicitDefEqProofs [r78_0, r78_1, r78_2, r78_3, r78_4, r78_5, r78_6, r78_7, l78_0, hp, hn, -List.getElem?_map, -getElem?_pos, List.getElem?_cons_zero, map_get, -List.map_take, -List.map_drop, take_map, drop_map, upd_ne, frOf_set, frOf_get, frOf_getD, encInt, t0, t1, t7, t8, hi, hwi, hpi, hc]
      refine .go _ _ ⟨_, rfl, (by first | rfl | assumption | simp [upd, *]), (by first | rfl | assumption | simp [upd, *]), (by first | rfl | assumption | simp [upd, *]), (by first | rfl | assumption | simp [upd, *]), rfl, ?_⟩; exact none_succ hf hc
    · simp -implicitDefEqProofs [r78_0, r78_1, r78_2, r78_3, r78_4, r78_5, r78_6, r78_7, l78_0, hp, hn, -List.getElem?_map, -getElem?_pos, List.getElem?_cons_zero, map_get, -List.map_take, -List.map_drop, take_map, drop_map, upd_ne, frOf_set, frOf_get, frOf_getD, encInt, t0, t1, t7, t8, hi, hwi, hpi, hc]
      refine .ret _ _ (Or.inl ⟨_, _, rfl, (by first | rfl | assumption | simp [upd, *]), ?_⟩); exact idxF_hit hi hf hc
  · rintro fr S ⟨f, rfl, t0, t1, t7, t8, rfl, hf⟩
    simp -implicitDefEqProofs [r78_0, r78_1, r78_2, r78_3, r78_4, r78_5, r78_6, r78_7, l78_0, hp, hn, -List.getElem?_map, -getElem?_pos, List.getElem?_cons_zero, map_get, -List.map_take, -List.map_drop, take_map, drop_map, upd_ne, frOf_set, frOf_get, frOf_getD, encInt, t0, t1, t7, t8]
    refine .exit _ _ _ (Or.inr ⟨_, rfl, ?_⟩)
    exact idxF_miss hf
theorem e78 (a : (List Int)) (g : Nat) (caps : List AV) (p : Int → Bool) (hp : ∀ x ∈ a, ∀ (m : Nat) (S : St), evCall T m (evFL T) g (.int .i64 x :: caps) S = some (.bool (p x), S)) (hn : a.length ≤ 9223372036854775807) : evFL T 78 [.ts .imm 1 (a.map encInt), .fn g caps] [] = some (.int .i64 (idxF p a), []) := by
  rw [evFL_at fn78 (by simp)]
  simp -implicitDefEqProofs [c78, r78_0, r78_1, r78_2, r78_3, r78_4, r78_5, r78_6, r78_7, hp, hn, -List.getElem?_map, -getElem?_pos, List.getElem?_cons_zero, map_get, -List.map_take, -List.map_drop, take_map, drop_map, upd_ne, frOf_set, frOf_get, frOf_getD, encInt]
  generalize hr : evCL T 0 (.loop l78_0) _ _ = r
  have h : R78_0 a g caps p  r := by rw [← hr]; exact L78_0 a g caps p hp hn  (0) _ _ (by omega) ⟨_, rfl, (by simp [upd, *]), (by simp [upd, *]), (by simp [upd, *]), (by simp [upd, *]), rfl, by simp⟩
  clear hr
  rcases h with h | h
  · obtain ⟨f0, j, rfl, u0_4, hf0⟩ := h
    simp -implicitDefEqProofs [r78_0, r78_1, r78_2, r78_3, r78_4, r78_5, r78_6, r78_7, hp, hn, -List.getElem?_map, -getElem?_pos, List.getElem?_cons_zero, map_get, -List.map_take, -List.map_drop, take_map, drop_map, upd_ne, frOf_set, frOf_get, frOf_getD, encInt, u0_4, hf0] <;> try omega
  obtain ⟨f0, rfl, hf0⟩ := h
  simp -implicitDefEqProofs [r78_0, r78_1, r78_2, r78_3, r78_4, r78_5, r78_6, r78_7, hp, hn, -List.getElem?_map, -getElem?_pos, List.getElem?_cons_zero, map_get, -List.map_take, -List.map_drop, take_map, drop_map, upd_ne, frOf_set, frOf_get, frOf_getD, encInt, hf0] <;> try omega
-- slices.ContainsFunc[[]int,int]
@[simp] theorem call52 {m : Nat} (args : List AV) (S : St) : evCall T m (evFL T) 52 args S = lendC (evFL T 52) S (lendAll S i52.pes args) := evCall0 fn52 rfl rfl args S
@[simp] theorem callz52 (args : List AV) (S : St) : evCallFz T (evFL T) 52 args S = lendZ (evFL T 52) S i52.res (lendAll S i52.pes args) := evCallFz0 fn52 rfl rfl args S
@[simp] theorem pes52 : i52.pes = [[1], [0]] := rfl
@[simp] theorem body52 : i52.body = c52 := rfl
@[simp] theorem kind52 : i52.kind = 0 := rfl
@[simp] theorem tree52 : i52.tree = false := rfl
@[simp] theorem ntmps52 : i52.ntmps = 9 := rfl
@[simp] theorem results52 : i52.results = [(ResultVar.tmp 4)] := rfl
@[simp] theorem res52 : i52.res = [[0]] := rfl
theorem e52 (a : (List Int)) (g : Nat) (caps : List AV) (p : Int → Bool) (hp : ∀ x ∈ a, ∀ (m : Nat) (S : St), evCall T m (evFL T) g (.int .i64 x :: caps) S = some (.bool (p x), S)) (hn : a.length ≤ 9223372036854775807) (hcaps : ∀ S, mapO (lendPtr S) caps = some caps) : evFL T 52 [.ts .imm 1 (a.map encInt), .fn g caps] [] = some (.bool (a.any p), []) := by
  rw [evFL_at fn52 (by simp)]
  have he := e78 a g caps p hp hn
  all_goals simp -implicitDefEqProofs [c52, r52_0, r52_1, hp, hn, hcaps, call78, callz78, e78, -List.getElem?_map, -getElem?_pos, List.getElem?_cons_zero, map_get, -List.map_take, -List.map_drop, take_map, drop_map, upd_ne, frOf_set, frOf_get, frOf_getD, he, idxF_any]
-- impl.GoodAlgebra$1$1
@[simp] theorem call53 {m : Nat} (args : List AV) (S : St) : evCall T m (evFL T) 53 args S = lendC (evFL T 53) S (lendAll S i53.pes args) := evCall0 fn53 rfl rfl args S
@[simp] theorem callz53 (args : List AV) (S : St) : evCallFz T (evFL T) 53 args S = lendZ (evFL T 53) S i53.res (lendAll S i53.pes args) := evCallFz0 fn53 rfl rfl args S
@[simp] theorem pes53 : i53.pes = [[0], [0]] := rfl
@[simp] theorem body53 : i53.body = c53 := rfl
@[simp] theorem kind53 : i53.kind = 0 := rfl
@[simp] theorem tree53 : i53.tree = false := rfl
@[simp] theorem ntmps53 : i53.ntmps = 9 := rfl
@[simp] theorem results53 : i53.results = [(ResultVar.tmp 3)] := rfl
@[simp] theorem res53 : i53.res = [[0]] := rfl
theorem e53 (x : Int) (w : Int) (ap : List (List Int)) (h1 : 2 ≤ w) (h2 : w ≤ 12) : evFL T 53 [.int .i64 x, .tp .imm 2 [[.int .i64 w, .ts .imm 1 (ap.map (encLInt .imm))]] 0 0] [] = some (.bool (!inR x 0 (w - 1)), []) := by
  rw [evFL_at fn53 (by simp)]
  all_goals simp -implicitDefEqProofs [c53, r53_0, r53_1, h1, h2, call48, callz48, e48, call51, callz51, e51, -List.getElem?_map, -getElem?_pos, List.getElem?_cons_zero, map_get, -List.map_take, -List.map_drop, take_map, drop_map, upd_ne, frOf_set, frOf_get, frOf_getD]
-- impl.GoodAlgebra$1
@[simp] theorem call50 {m : Nat} (args : List AV) (S : St) : evCall T m (evFL T) 50 args S = lendC (evFL T 50) S (lendAll S i50.pes args) := evCall0 fn50 rfl rfl args S
@[simp] theorem callz50 (args : List AV) (S : St) : evCallFz T (evFL T) 50 args S = lendZ (evFL T 50) S i50.res (lendAll S i50.pes args) := evCallFz0 fn50 rfl rfl args S
@[simp] theorem pes50 : i50.pes = [[1], [0]] := rfl
@[simp] theorem body50 : i50.body = c50 := rfl
@[simp] theorem kind50 : i50.kind = 0 := rfl
@[simp] theorem tree50 : i50.tree = false := rfl
@[simp] theorem ntmps50 : i50.ntmps = 24 := rfl
@[simp] theorem results50 : i50.results = [(ResultVar.tmp 3)] := rfl
@[simp] theorem res50 : i50.res = [[0]] := rfl
theorem e50 (r : (List Int)) (w : Int) (ap : List (List Int)) (h0 : r.length ≤ 1048576) (h1 : 2 ≤ w) (h2 : w ≤ 12) : evFL T 50 [.ts .imm 1 (r.map encInt), .tp .imm 2 [[.int .i64 w, .ts .imm 1 (ap.map (encLInt .imm))]] 0 0] [] = some (.bool (!rowB w r), []) := by
  rw [evFL_at fn50 (by simp)]
  obtain ⟨k, rfl⟩ : ∃ k : Nat, w = (k : Int) + 1 := ⟨(w - 1).toNat, by omega⟩
  have he := e52 r 53 [.tp .imm 2 [[.int .i64 ((k : Int) + 1), .ts .imm 1 (ap.map (encLInt .imm))]] 0 0] (fun x => !inR x 0 (((k : Int) + 1) - 1)) (fun x hx m S => by rw [call53]; simp -implicitDefEqProofs only [pes53]; have h9 := e53 x ((k : Int) + 1) ap h1 h2; simp [h9]) (by omega) (fun S => by simp)
  by_cases hl : (r.length : Int) = (k : Int) + 1
  · have hk : k < r.length := by omega
    by_cases hq : nth r k = (k : Int)
    · simp at he
      simp -implicitDefEqProofs [c50, r50_0, r50_1, h0, h1, h2, call51, callz51, e51, call52, callz52, e52, call53, callz53, e53, -List.getElem?_map, -getElem?_pos, List.getElem?_cons_zero, map_get, -List.map_take, -List.map_drop, take_map, drop_map, upd_ne, frOf_set, frOf_get, frOf_getD, encInt, rowB, hl, hk, hq, he, any_neg]
    · simp -implicitDefEqProofs [c50, r50_0, r50_1, h0, h1, h2, call51, callz51, e51, call52, callz52, e52, call53, callz53, e53, -List.getElem?_map, -getElem?_pos, List.getElem?_cons_zero, map_get, -List.map_take, -List.map_drop, take_map, drop_map, upd_ne, frOf_set, frOf_get, frOf_getD, encInt, rowB, hl, hk, hq]
  · simp -implicitDefEqProofs [c50, r50_0, r50_1, h0, h1, h2, call51, callz51, e51, call52, callz52, e52, call53, callz53, e53, -List.getElem?_map, -getElem?_pos, List.getElem?_cons_zero, map_get, -List.map_take, -List.map_drop, take_map, drop_map, upd_ne, frOf_set, frOf_get, frOf_getD, encInt, rowB, hl]
-- impl.GoodAlgebra
@[simp] theorem call15 {m : Nat} (args : List AV) (S : St) : evCall T m (evFL T) 15 args S = lendC (evFL T 15) S (lendAll S i15.pes args) := evCall0 fn15 rfl rfl args S
@[simp] theorem callz15 (args : List AV) (S : St) : evCallFz T (evFL T) 15 args S = lendZ (evFL T 15) S i15.res (lendAll S i15.pes args) := evCallFz0 fn15 rfl rfl args S
@[simp] theorem pes15 : i15.pes = [[0, 1]] := rfl
@[simp] theorem body15 : i15.body = c15 := rfl
@[simp] theorem kind15 : i15.kind = 0 := rfl
@[simp] theorem tree15 : i15.tree = false := rfl
@[simp] theorem ntmps15 : i15.ntmps = 19 := rfl
@[simp] theorem results15 : i15.results = [(ResultVar.tmp 2)] := rfl
@[simp] theorem res15 : i15.res = [[0]] := rfl
theorem e15 (a_weights : Int) (a_apply : (List (List Int))) (ha0 : a_apply.length ≤ 1048576) (ha1 : smsLInt a_apply) : evFL T 15 [.agg [.int .i64 a_weights, .ts .imm 1 (a_apply.map (encLInt .imm))]] [] = some (.bool (algB (⟨a_weights, a_apply⟩ : Algebra)), []) := by
  rw [evFL_at fn15 (by simp)]
  cases hw : inR a_weights 2 12
  · simp -implicitDefEqProofs [c15, r15_0, r15_1, r15_2, r15_3, ha0, ha1, call48, callz48, e48, call49, callz49, e49, call50, callz50, e50, -List.getElem?_map, -getElem?_pos, List.getElem?_cons_zero, map_get, -List.map_take, -List.map_drop, take_map, drop_map, upd_ne, frOf_set, frOf_get, frOf_getD, hw, algB]
  cases hn : inR (a_apply.length : Int) 1 4
  · simp -implicitDefEqProofs [c15, r15_0, r15_1, r15_2, r15_3, ha0, ha1, call48, callz48, e48, call49, callz49, e49, call50, callz50, e50, -List.getElem?_map, -getElem?_pos, List.getElem?_cons_zero, map_get, -List.map_take, -List.map_drop, take_map, drop_map, upd_ne, frOf_set, frOf_get, frOf_getD, hw, hn, algB]
  have hw2 : 2 ≤ a_weights ∧ a_weights ≤ 12 := by simpa [inR] using hw
  obtain ⟨hw3, hw4⟩ := hw2
  have he := e49 a_apply 50 [.tp .imm 2 [[.int .i64 a_weights, .ts .imm 1 (a_apply.map (encLInt .imm))]] 0 0] (fun r => !rowB a_weights r) (fun r hr m S => by simp -implicitDefEqProofs [e50 r a_weights a_apply (ha1 r hr) hw3 hw4]) (by omega) (fun S => by simp)
  simp -implicitDefEqProofs [c15, r15_0, r15_1, r15_2, r15_3, ha0, ha1, call48, callz48, e48, call49, callz49, e49, call50, callz50, e50, -List.getElem?_map, -getElem?_pos, List.getElem?_cons_zero, map_get, -List.map_take, -List.map_drop, take_map, drop_map, upd_ne, frOf_set, frOf_get, frOf_getD, hw, hn, he, any_neg, algB]
-- slices.IndexFunc[[]loop.example/g00344/impl.Arc,loop.example/g00344/impl.Arc]
@[simp] theorem call83 {m : Nat} (args : List AV) (S : St) : evCall T m (evFL T) 83 args S = lendC (evFL T 83) S (lendAll S i83.pes args) := evCall0 fn83 rfl rfl args S
@[simp] theorem callz83 (args : List AV) (S : St) : evCallFz T (evFL T) 83 args S = lendZ (evFL T 83) S i83.res (lendAll S i83.pes args) := evCallFz0 fn83 rfl rfl args S
@[simp] theorem pes83 : i83.pes = [[3], [0]] := rfl
@[simp] theorem body83 : i83.body = c83 := rfl
@[simp] theorem kind83 : i83.kind = 0 := rfl
@[simp] theorem tree83 : i83.tree = false := rfl
@[simp] theorem ntmps83 : i83.ntmps = 19 := rfl
@[simp] theorem results83 : i83.results = [(ResultVar.tmp 4)] := rfl
@[simp] theorem res83 : i83.res = [[0]] := rfl
def I83_0 (a : (List Arc)) (g : Nat) (caps : List AV) (p : Arc → Bool)  (i : Nat) (fr : Fr) (S : St) : Prop := ∃ f : Nat → AV, fr = frOf 19 f ∧ f 0 = .ts .imm 3 (a.map encArc) ∧ f 1 = .fn g caps ∧ f 7 = .int .i64 a.length ∧ f 8 = .int .i64 i ∧ S = [] ∧ ∀ j, j < i → p (nth a j) = false
def R83_0 (a : (List Arc)) (g : Nat) (caps : List AV) (p : Arc → Bool)  (r : Option (Ex × Fr × St)) : Prop := (∃ f : Nat → AV, ∃ j : Int, r = some (.ret, frOf 19 f, []) ∧ f 4 = .int .i64 j ∧ idxF p a = j) ∨ (∃ f : Nat → AV, r = some (.exit 0, frOf 19 f, []) ∧ idxF p a = -1)
theorem L83_0 (a : (List Arc)) (g : Nat) (caps : List AV) (p : Arc → Bool) (hp : ∀ x ∈ a, ∀ (m : Nat) (S : St), evCall T m (evFL T) g (.agg [.int .i64 x.from_, .int .i64 x.to, .int .i64 x.label] :: caps) S = some (.bool (p x), S)) (hn : a.length ≤ 9223372036854775807)   : ∀ i fr S, i ≤ a.length → I83_0 a g caps p  i fr S → R83_0 a g caps p  (evCL T 0 (.loop l83_0) fr S) := by
  refine loopQ _ _ _ ?_ ?_
  · rintro i fr S hi ⟨f, rfl, t0, t1, t7, t8, rfl, hf⟩
    have hwi : IntKind.i64.wrap ((i : Int) + 1) = (i : Int) + 1 := wrap64 (by omega) (by omega)
    have hpi := hp (nth a i) (nth_mem hi) 0
    cases hc : p (nth a i)
    · simp -implicitDefEqProofs [r83_0, r83_1, r83_2, r83_3, r83_4, r83_5, r83_6, r83_7, l83_0, hp, hn, -List.getElem?_map, -getElem?_pos, List.getElem?_cons_zero, map_get, -List.map_take, -List.map_drop, take_map, drop_map, upd_ne, frOf_set, frOf_get, frOf_getD, encArc, t0, t1, t7, t8, hi, hwi, hpi, hc]
      refine .go _ _ ⟨_, rfl, (by first | rfl | assumption | simp [upd, *]), (by first | rfl | assumption | simp [upd, *]), (by first | rfl | assumption | simp [upd, *]), (by first | rfl | assumption | simp [upd, *]), rfl, ?_⟩; exact none_succ hf hc
    · simp -implicitDefEqProofs [r83_0, r83_1, r83_2, r83_3, r83_4, r83_5, r83_6, r83_7, l83_0, hp, hn, -List.getElem?_map, -getElem?_pos, List.getElem?_cons_zero, map_get, -List.map_take, -List.map_drop, take_map, drop_map, upd_ne, frOf_set, frOf_get, frOf_getD, encArc, t0, t1, t7, t8, hi, hwi, hpi, hc]
      refine .ret _ _ (Or.inl ⟨_, _, rfl, (by first | rfl | assumption | simp [upd, *]), ?_⟩); exact idxF_hit hi hf hc
  · rintro fr S ⟨f, rfl, t0, t1, t7, t8, rfl, hf⟩
    simp -implicitDefEqProofs [r83_0, r83_1, r83_2, r83_3, r83_4, r83_5, r83_6, r83_7, l83_0, hp, hn, -List.getElem?_map, -getElem?_pos, List.getElem?_cons_zero, map_get, -List.map_take, -List.map_drop, take_map, drop_map, upd_ne, frOf_set, frOf_get, frOf_getD, encArc, t0, t1, t7, t8]
    refine .exit _ _ _ (Or.inr ⟨_, rfl, ?_⟩)
    exact idxF_miss hf
theorem e83 (a : (List Arc)) (g : Nat) (caps : List AV) (p : Arc → Bool) (hp : ∀ x ∈ a, ∀ (m : Nat) (S : St), evCall T m (evFL T) g (.agg [.int .i64 x.from_, .int .i64 x.to, .int .i64 x.label] :: caps) S = some (.bool (p x), S)) (hn : a.length ≤ 9223372036854775807) : evFL T 83 [.ts .imm 3 (a.map encArc), .fn g caps] [] = some (.int .i64 (idxF p a), []) := by
  rw [evFL_at fn83 (by simp)]
  simp -implicitDefEqProofs [c83, r83_0, r83_1, r83_2, r83_3, r83_4, r83_5, r83_6, r83_7, hp, hn, -List.getElem?_map, -getElem?_pos, List.getElem?_cons_zero, map_get, -List.map_take, -List.map_drop, take_map, drop_map, upd_ne, frOf_set, frOf_get, frOf_getD, encArc]
  generalize hr : evCL T 0 (.loop l83_0) _ _ = r
  have h : R83_0 a g caps p  r := by rw [← hr]; exact L83_0 a g caps p hp hn  (0) _ _ (by omega) ⟨_, rfl, (by simp [upd, *]), (by simp [upd, *]), (by simp [upd, *]), (by simp [upd, *]), rfl, by simp⟩
  clear hr
  rcases h with h | h
  · obtain ⟨f0, j, rfl, u0_4, hf0⟩ := h
    simp -implicitDefEqProofs [r83_0, r83_1, r83_2, r83_3, r83_4, r83_5, r83_6, r83_7, hp, hn, -List.getElem?_map, -getElem?_pos, List.getElem?_cons_zero, map_get, -List.map_take, -List.map_drop, take_map, drop_map, upd_ne, frOf_set, frOf_get, frOf_getD, encArc, u0_4, hf0] <;> try omega
  obtain ⟨f0, rfl, hf0⟩ := h
  simp -implicitDefEqProofs [r83_0, r83_1, r83_2, r83_3, r83_4, r83_5, r83_6, r83_7, hp, hn, -List.getElem?_map, -getElem?_pos, List.getElem?_cons_zero, map_get, -List.map_take, -List.map_drop, take_map, drop_map, upd_ne, frOf_set, frOf_get, frOf_getD, encArc, hf0] <;> try omega
-- slices.ContainsFunc[[]loop.example/g00344/impl.Arc,loop.example/g00344/impl.Arc]
@[simp] theorem call80 {m : Nat} (args : List AV) (S : St) : evCall T m (evFL T) 80 args S = lendC (evFL T 80) S (lendAll S i80.pes args) := evCall0 fn80 rfl rfl args S
@[simp] theorem callz80 (args : List AV) (S : St) : evCallFz T (evFL T) 80 args S = lendZ (evFL T 80) S i80.res (lendAll S i80.pes args) := evCallFz0 fn80 rfl rfl args S
@[simp] theorem pes80 : i80.pes = [[3], [0]] := rfl
@[simp] theorem body80 : i80.body = c80 := rfl
@[simp] theorem kind80 : i80.kind = 0 := rfl
@[simp] theorem tree80 : i80.tree = false := rfl
@[simp] theorem ntmps80 : i80.ntmps = 9 := rfl
@[simp] theorem results80 : i80.results = [(ResultVar.tmp 4)] := rfl
@[simp] theorem res80 : i80.res = [[0]] := rfl
theorem e80 (a : (List Arc)) (g : Nat) (caps : List AV) (p : Arc → Bool) (hp : ∀ x ∈ a, ∀ (m : Nat) (S : St), evCall T m (evFL T) g (.agg [.int .i64 x.from_, .int .i64 x.to, .int .i64 x.label] :: caps) S = some (.bool (p x), S)) (hn : a.length ≤ 9223372036854775807) (hcaps : ∀ S, mapO (lendPtr S) caps = some caps) : evFL T 80 [.ts .imm 3 (a.map encArc), .fn g caps] [] = some (.bool (a.any p), []) := by
  rw [evFL_at fn80 (by simp)]
  have he := e83 a g caps p hp hn
  all_goals simp -implicitDefEqProofs [c80, r80_0, r80_1, hp, hn, hcaps, call83, callz83, e83, -List.getElem?_map, -getElem?_pos, List.getElem?_cons_zero, map_get, -List.map_take, -List.map_drop, take_map, drop_map, upd_ne, frOf_set, frOf_get, frOf_getD, he, idxF_any]
-- impl.isSpeaker
@[simp] theorem call64 {m : Nat} (args : List AV) (S : St) : evCall T m (evFL T) 64 args S = lendC (evFL T 64) S (lendAll S i64.pes args) := evCall0 fn64 rfl rfl args S
@[simp] theorem callz64 (args : List AV) (S : St) : evCallFz T (evFL T) 64 args S = lendZ (evFL T 64) S i64.res (lendAll S i64.pes args) := evCallFz0 fn64 rfl rfl args S
@[simp] theorem pes64 : i64.pes = [[0]] := rfl
@[simp] theorem body64 : i64.body = c64 := rfl
@[simp] theorem kind64 : i64.kind = 0 := rfl
@[simp] theorem tree64 : i64.tree = false := rfl
@[simp] theorem ntmps64 : i64.ntmps = 5 := rfl
@[simp] theorem results64 : i64.results = [(ResultVar.tmp 2)] := rfl
@[simp] theorem res64 : i64.res = [[0]] := rfl
theorem e64 (a : Int)  : evFL T 64 [.int .i64 a] [] = some (.bool (inR a 0 5), []) := by
  rw [evFL_at fn64 (by simp)]
  all_goals simp -implicitDefEqProofs [c64, r64_0, r64_1, call48, callz48, e48, -List.getElem?_map, -getElem?_pos, List.getElem?_cons_zero, map_get, -List.map_take, -List.map_drop, take_map, drop_map, upd_ne, frOf_set, frOf_get, frOf_getD]
-- impl.areArcs$1
@[simp] theorem call81 {m : Nat} (args : List AV) (S : St) : evCall T m (evFL T) 81 args S = lendC (evFL T 81) S (lendAll S i81.pes args) := evCall0 fn81 rfl rfl args S
@[simp] theorem callz81 (args : List AV) (S : St) : evCallFz T (evFL T) 81 args S = lendZ (evFL T 81) S i81.res (lendAll S i81.pes args) := evCallFz0 fn81 rfl rfl args S
@[simp] theorem pes81 : i81.pes = [[0, 0, 0], [0]] := rfl
@[simp] theorem body81 : i81.body = c81 := rfl
@[simp] theorem kind81 : i81.kind = 0 := rfl
@[simp] theorem tree81 : i81.tree = false := rfl
@[simp] theorem ntmps81 : i81.ntmps = 31 := rfl
@[simp] theorem results81 : i81.results = [(ResultVar.tmp 3)] := rfl
@[simp] theorem res81 : i81.res = [[0]] := rfl
theorem e81 (x_from_ : Int) (x_to : Int) (x_label : Int) (w : Int) (ap : List (List Int)) (h0 : ap.length ≤ 1048576) : evFL T 81 [.agg [.int .i64 x_from_, .int .i64 x_to, .int .i64 x_label], .tp .imm 2 [[.int .i64 w, .ts .imm 1 (ap.map (encLInt .imm))]] 0 0] [] = some (.bool (!arcP (ap.length : Int) (⟨x_from_, x_to, x_label⟩ : Arc)), []) := by
  rw [evFL_at fn81 (by simp)]
  have hw : IntKind.i64.wrap ((ap.length : Int) - 1) = (ap.length : Int) - 1 := wrap64 (by omega) (by omega)
  cases hq0 : (inR x_from_ 0 5 : Bool)
  · simp -implicitDefEqProofs [c81, r81_0, r81_1, h0, call48, callz48, e48, call64, callz64, e64, -List.getElem?_map, -getElem?_pos, List.getElem?_cons_zero, map_get, -List.map_take, -List.map_drop, take_map, drop_map, upd_ne, frOf_set, frOf_get, frOf_getD, hq0, hw, arcP] <;> try omega
  cases hq1 : (inR x_to 0 5 : Bool)
  · simp -implicitDefEqProofs [c81, r81_0, r81_1, h0, call48, callz48, e48, call64, callz64, e64, -List.getElem?_map, -getElem?_pos, List.getElem?_cons_zero, map_get, -List.map_take, -List.map_drop, take_map, drop_map, upd_ne, frOf_set, frOf_get, frOf_getD, hq0, hq1, hw, arcP] <;> try omega
  cases hq2 : (decide (x_from_ = x_to) : Bool)
  · simp -implicitDefEqProofs [c81, r81_0, r81_1, h0, call48, callz48, e48, call64, callz64, e64, -List.getElem?_map, -getElem?_pos, List.getElem?_cons_zero, map_get, -List.map_take, -List.map_drop, take_map, drop_map, upd_ne, frOf_set, frOf_get, frOf_getD, hq0, hq1, hq2, hw, arcP] <;> try omega
  simp -implicitDefEqProofs [c81, r81_0, r81_1, h0, call48, callz48, e48, call64, callz64, e64, -List.getElem?_map, -getElem?_pos, List.getElem?_cons_zero, map_get, -List.map_take, -List.map_drop, take_map, drop_map, upd_ne, frOf_set, frOf_get, frOf_getD, hq0, hq1, hq2, hw, arcP] <;> try omega
-- impl.areArcs
@[simp] theorem call63 {m : Nat} (args : List AV) (S : St) : evCall T m (evFL T) 63 args S = lendC (evFL T 63) S (lendAll S i63.pes args) := evCall0 fn63 rfl rfl args S
@[simp] theorem callz63 (args : List AV) (S : St) : evCallFz T (evFL T) 63 args S = lendZ (evFL T 63) S i63.res (lendAll S i63.pes args) := evCallFz0 fn63 rfl rfl args S
@[simp] theorem pes63 : i63.pes = [[0, 1], [3]] := rfl
@[simp] theorem body63 : i63.body = c63 := rfl
@[simp] theorem kind63 : i63.kind = 0 := rfl
@[simp] theorem tree63 : i63.tree = false := rfl
@[simp] theorem ntmps63 : i63.ntmps = 18 := rfl
@[simp] theorem results63 : i63.results = [(ResultVar.tmp 4)] := rfl
@[simp] theorem res63 : i63.res = [[0]] := rfl
theorem e63 (a_weights : Int) (a_apply : (List (List Int))) (l : (List Arc)) (ha0 : a_apply.length ≤ 1048576) (ha1 : smsLInt a_apply) (h0 : l.length ≤ 1048576) : evFL T 63 [.agg [.int .i64 a_weights, .ts .imm 1 (a_apply.map (encLInt .imm))], .ts .imm 3 (l.map encArc)] [] = some (.bool (arcsB (⟨a_weights, a_apply⟩ : Algebra) l), []) := by
  rw [evFL_at fn63 (by simp)]
  have he := e80 l 81 [.tp .imm 2 [[.int .i64 a_weights, .ts .imm 1 (a_apply.map (encLInt .imm))]] 0 0] (fun x => !arcP (a_apply.length : Int) x) (fun x hx m S => by simp -implicitDefEqProofs [e81, ha0]) (by omega) (fun S => by simp)
  cases hq0 : (algB (⟨a_weights, a_apply⟩ : Algebra) : Bool)
  · simp -implicitDefEqProofs [c63, r63_0, r63_1, ha0, ha1, h0, call15, callz15, e15, call80, callz80, e80, call81, callz81, e81, -List.getElem?_map, -getElem?_pos, List.getElem?_cons_zero, map_get, -List.map_take, -List.map_drop, take_map, drop_map, upd_ne, frOf_set, frOf_get, frOf_getD, hq0, he, any_neg, arcsB] <;> try omega
  cases hq1 : (decide ((l.length : Int) ≤ 20) : Bool)
  · simp -implicitDefEqProofs [c63, r63_0, r63_1, ha0, ha1, h0, call15, callz15, e15, call80, callz80, e80, call81, callz81, e81, -List.getElem?_map, -getElem?_pos, List.getElem?_cons_zero, map_get, -List.map_take, -List.map_drop, take_map, drop_map, upd_ne, frOf_set, frOf_get, frOf_getD, hq0, hq1, he, any_neg, arcsB] <;> try omega
  simp -implicitDefEqProofs [c63, r63_0, r63_1, ha0, ha1, h0, call15, callz15, e15, call80, callz80, e80, call81, callz81, e81, -List.getElem?_map, -getElem?_pos, List.getElem?_cons_zero, map_get, -List.map_take, -List.map_drop, take_map, drop_map, upd_ne, frOf_set, frOf_get, frOf_getD, hq0, hq1, he, any_neg, arcsB] <;> try omega
-- slices.Index[[]int,int]
@[simp] theorem call82 {m : Nat} (args : List AV) (S : St) : evCall T m (evFL T) 82 args S = lendC (evFL T 82) S (lendAll S i82.pes args) := evCall0 fn82 rfl rfl args S
@[simp] theorem callz82 (args : List AV) (S : St) : evCallFz T (evFL T) 82 args S = lendZ (evFL T 82) S i82.res (lendAll S i82.pes args) := evCallFz0 fn82 rfl rfl args S
@[simp] theorem pes82 : i82.pes = [[1], [0]] := rfl
@[simp] theorem body82 : i82.body = c82 := rfl
@[simp] theorem kind82 : i82.kind = 0 := rfl
@[simp] theorem tree82 : i82.tree = false := rfl
@[simp] theorem ntmps82 : i82.ntmps = 19 := rfl
@[simp] theorem results82 : i82.results = [(ResultVar.tmp 4)] := rfl
@[simp] theorem res82 : i82.res = [[0]] := rfl
def I82_0 (a : (List Int)) (v : Int)  (i : Nat) (fr : Fr) (S : St) : Prop := ∃ f : Nat → AV, fr = frOf 19 f ∧ f 0 = .ts .imm 1 (a.map encInt) ∧ f 1 = .int .i64 v ∧ f 7 = .int .i64 a.length ∧ f 8 = .int .i64 i ∧ S = [] ∧ ∀ j, j < i → decide (v = nth a j) = false
def R82_0 (a : (List Int)) (v : Int)  (r : Option (Ex × Fr × St)) : Prop := (∃ f : Nat → AV, ∃ j : Int, r = some (.ret, frOf 19 f, []) ∧ f 4 = .int .i64 j ∧ idxF (fun x => decide (v = x)) a = j) ∨ (∃ f : Nat → AV, r = some (.exit 0, frOf 19 f, []) ∧ idxF (fun x => decide (v = x)) a = -1)
theorem L82_0 (a : (List Int)) (v : Int) (h0 : a.length ≤ 1048576)   : ∀ i fr S, i ≤ a.length → I82_0 a v  i fr S → R82_0 a v  (evCL T 0 (.loop l82_0) fr S) := by
  refine loopQ _ _ _ ?_ ?_
  · rintro i fr S hi ⟨f, rfl, t0, t1, t7, t8, rfl, hf⟩
    have hwi : IntKind.i64.wrap ((i : Int) + 1) = (i : Int) + 1 := wrap64 (by omega) (by omega)
    by_cases ht1 : v = nth a i
    · subst ht1
      simp -implicitDefEqProofs [r82_0, r82_1, r82_2, r82_3, r82_4, r82_5, r82_6, r82_7, l82_0, h0, -List.getElem?_map, -getElem?_pos, List.getElem?_cons_zero, map_get, -List.map_take, -List.map_drop, take_map, drop_map, upd_ne, frOf_set, frOf_get, frOf_getD, encInt, t0, t1, t7, t8, hi, hwi]
      refine .ret _ _ (Or.inl ⟨_, _, rfl, (by first | rfl | assumption | simp [upd, *]), ?_⟩); exact idxF_hit hi hf (by simp)
    · simp -implicitDefEqProofs [r82_0, r82_1, r82_2, r82_3, r82_4, r82_5, r82_6, r82_7, l82_0, h0, -List.getElem?_map, -getElem?_pos, List.getElem?_cons_zero, map_get, -List.map_take, -List.map_drop, take_map, drop_map, upd_ne, frOf_set, frOf_get, frOf_getD, encInt, t0, t1, t7, t8, hi, hwi, ht1]
      refine .go _ _ ⟨_, rfl, (by first | rfl | assumption | simp [upd, *]), (by first | rfl | assumption | simp [upd, *]), (by first | rfl | assumption | simp [upd, *]), (by first | rfl | assumption | simp [upd, *]), rfl, ?_⟩; exact none_succ hf (by simp [ht1])
  · rintro fr S ⟨f, rfl, t0, t1, t7, t8, rfl, hf⟩
    simp -implicitDefEqProofs [r82_0, r82_1, r82_2, r82_3, r82_4, r82_5, r82_6, r82_7, l82_0, h0, -List.getElem?_map, -getElem?_pos, List.getElem?_cons_zero, map_get, -List.map_take, -List.map_drop, take_map, drop_map, upd_ne, frOf_set, frOf_get, frOf_getD, encInt, t0, t1, t7, t8]
    refine .exit _ _ _ (Or.inr ⟨_, rfl, ?_⟩)
    exact idxF_miss hf
theorem e82 (a : (List Int)) (v : Int) (h0 : a.length ≤ 1048576) : evFL T 82 [.ts .imm 1 (a.map encInt), .int .i64 v] [] = some (.int .i64 (idxF (fun x => decide (v = x)) a), []) := by
  rw [evFL_at fn82 (by simp)]
  simp -implicitDefEqProofs [c82, r82_0, r82_1, r82_2, r82_3, r82_4, r82_5, r82_6, r82_7, h0, -List.getElem?_map, -getElem?_pos, List.getElem?_cons_zero, map_get, -List.map_take, -List.map_drop, take_map, drop_map, upd_ne, frOf_set, frOf_get, frOf_getD, encInt]
  generalize hr : evCL T 0 (.loop l82_0) _ _ = r
  have h : R82_0 a v  r := by rw [← hr]; exact L82_0 a v h0  (0) _ _ (by omega) ⟨_, rfl, (by simp [upd, *]), (by simp [upd, *]), (by simp [upd, *]), (by simp [upd, *]), rfl, by simp⟩
  clear hr
  rcases h with h | h
  · obtain ⟨f0, j, rfl, u0_4, hf0⟩ := h
    simp -implicitDefEqProofs [r82_0, r82_1, r82_2, r82_3, r82_4, r82_5, r82_6, r82_7, h0, -List.getElem?_map, -getElem?_pos, List.getElem?_cons_zero, map_get, -List.map_take, -List.map_drop, take_map, drop_map, upd_ne, frOf_set, frOf_get, frOf_getD, encInt, u0_4, hf0] <;> try omega
  obtain ⟨f0, rfl, hf0⟩ := h
  simp -implicitDefEqProofs [r82_0, r82_1, r82_2, r82_3, r82_4, r82_5, r82_6, r82_7, h0, -List.getElem?_map, -getElem?_pos, List.getElem?_cons_zero, map_get, -List.map_take, -List.map_drop, take_map, drop_map, upd_ne, frOf_set, frOf_get, frOf_getD, encInt, hf0] <;> try omega
-- slices.Contains[[]int,int]
@[simp] theorem call65 {m : Nat} (args : List AV) (S : St) : evCall T m (evFL T) 65 args S = lendC (evFL T 65) S (lendAll S i65.pes args) := evCall0 fn65 rfl rfl args S
@[simp] theorem callz65 (args : List AV) (S : St) : evCallFz T (evFL T) 65 args S = lendZ (evFL T 65) S i65.res (lendAll S i65.pes args) := evCallFz0 fn65 rfl rfl args S
@[simp] theorem pes65 : i65.pes = [[1], [0]] := rfl
@[simp] theorem body65 : i65.body = c65 := rfl
@[simp] theorem kind65 : i65.kind = 0 := rfl
@[simp] theorem tree65 : i65.tree = false := rfl
@[simp] theorem ntmps65 : i65.ntmps = 9 := rfl
@[simp] theorem results65 : i65.results = [(ResultVar.tmp 4)] := rfl
@[simp] theorem res65 : i65.res = [[0]] := rfl
theorem e65 (a : (List Int)) (v : Int) (h0 : a.length ≤ 1048576) : evFL T 65 [.ts .imm 1 (a.map encInt), .int .i64 v] [] = some (.bool (hasI a v), []) := by
  rw [evFL_at fn65 (by simp)]
  all_goals simp -implicitDefEqProofs [c65, r65_0, r65_1, h0, call82, callz82, e82, -List.getElem?_map, -getElem?_pos, List.getElem?_cons_zero, map_get, -List.map_take, -List.map_drop, take_map, drop_map, upd_ne, frOf_set, frOf_get, frOf_getD, idxF_any, hasI_comm]
-- impl.labelOf$1
@[simp] theorem call84 {m : Nat} (args : List AV) (S : St) : evCall T m (evFL T) 84 args S = lendC (evFL T 84) S (lendAll S i84.pes args) := evCall0 fn84 rfl rfl args S
@[simp] theorem callz84 (args : List AV) (S : St) : evCallFz T (evFL T) 84 args S = lendZ (evFL T 84) S i84.res (lendAll S i84.pes args) := evCallFz0 fn84 rfl rfl args S
@[simp] theorem pes84 : i84.pes = [[0, 0, 0], [0], [0]] := rfl
@[simp] theorem body84 : i84.body = c84 := rfl
@[simp] theorem kind84 : i84.kind = 0 := rfl
@[simp] theorem tree84 : i84.tree = false := rfl
@[simp] theorem ntmps84 : i84.ntmps = 15 := rfl
@[simp] theorem results84 : i84.results = [(ResultVar.tmp 4)] := rfl
@[simp] theorem res84 : i84.res = [[0]] := rfl
theorem e84 (x_from_ : Int) (x_to : Int) (x_label : Int) (u : Int) (v : Int)  : evFL T 84 [.agg [.int .i64 x_from_, .int .i64 x_to, .int .i64 x_label], .tp .imm 1 [[.int .i64 u]] 0 0, .tp .imm 1 [[.int .i64 v]] 0 0] [] = some (.bool (arcEq u v (⟨x_from_, x_to, x_label⟩ : Arc)), []) := by
  rw [evFL_at fn84 (by simp)]
  by_cases hc0 : x_from_ = u
  all_goals simp -implicitDefEqProofs [c84, r84_0, r84_1, -List.getElem?_map, -getElem?_pos, List.getElem?_cons_zero, map_get, -List.map_take, -List.map_drop, take_map, drop_map, upd_ne, frOf_set, frOf_get, frOf_getD, arcEq, hc0]
-- impl.labelOf
@[simp] theorem call66 {m : Nat} (args : List AV) (S : St) : evCall T m (evFL T) 66 args S = lendC (evFL T 66) S (lendAll S i66.pes args) := evCall0 fn66 rfl rfl args S
@[simp] theorem callz66 (args : List AV) (S : St) : evCallFz T (evFL T) 66 args S = lendZ (evFL T 66) S i66.res (lendAll S i66.pes args) := evCallFz0 fn66 rfl rfl args S
@[simp] theorem pes66 : i66.pes = [[3], [0], [0]] := rfl
@[simp] theorem body66 : i66.body = c66 := rfl
@[simp] theorem kind66 : i66.kind = 0 := rfl
@[simp] theorem tree66 : i66.tree = false := rfl
@[simp] theorem ntmps66 : i66.ntmps = 19 := rfl
@[simp] theorem results66 : i66.results = [(ResultVar.tmp 6), (ResultVar.tmp 7)] := rfl
@[simp] theorem res66 : i66.res = [[0], [0]] := rfl
theorem e66 (l : (List Arc)) (u : Int) (v : Int) (h0 : l.length ≤ 1048576) : evFL T 66 [.ts .imm 3 (l.map encArc), .int .i64 u, .int .i64 v] [] = some (.tup [.int .i64 ((arcOf u v l).getD 0), .bool (arcOf u v l).isSome], []) := by
  rw [evFL_at fn66 (by simp)]
  have he := e83 l 84 [.tp .imm 1 [[.int .i64 u]] 0 0, .tp .imm 1 [[.int .i64 v]] 0 0] (arcEq u v) (fun x hx m S => by simp -implicitDefEqProofs [e84]) (by omega)
  have hg := idxF_ge (arcEq u v) l
  have ha := arcOf_idx u v l
  by_cases hq : idxF (arcEq u v) l < 0
  · simp -implicitDefEqProofs [c66, r66_0, r66_1, r66_2, r66_3, r66_4, h0, call83, callz83, e83, call84, callz84, e84, -List.getElem?_map, -getElem?_pos, List.getElem?_cons_zero, map_get, -List.map_take, -List.map_drop, take_map, drop_map, upd_ne, frOf_set, frOf_get, frOf_getD, encArc, he, hq, ha]
  · have hk : (idxF (arcEq u v) l).toNat < l.length := by omega
    have hz : 0 ≤ idxF (arcEq u v) l := by omega
    have hb : idxF (arcEq u v) l < (l.length : Int) := by omega
    simp -implicitDefEqProofs [c66, r66_0, r66_1, r66_2, r66_3, r66_4, h0, call83, callz83, e83, call84, callz84, e84, -List.getElem?_map, -getElem?_pos, List.getElem?_cons_zero, map_get, -List.map_take, -List.map_drop, take_map, drop_map, upd_ne, frOf_set, frOf_get, frOf_getD, encArc, he, hq, ha, hk, hz, hb]
-- impl.WeightOf
@[simp] theorem call29 {m : Nat} (args : List AV) (S : St) : evCall T m (evFL T) 29 args S = lendC (evFL T 29) S (lendAll S i29.pes args) := evCall0 fn29 rfl rfl args S
@[simp] theorem callz29 (args : List AV) (S : St) : evCallFz T (evFL T) 29 args S = lendZ (evFL T 29) S i29.res (lendAll S i29.pes args) := evCallFz0 fn29 rfl rfl args S
@[simp] theorem pes29 : i29.pes = [[0, 1], [3], [1]] := rfl
@[simp] theorem body29 : i29.body = c29 := rfl
@[simp] theorem kind29 : i29.kind = 0 := rfl
@[simp] theorem tree29 : i29.tree = false := rfl
@[simp] theorem ntmps29 : i29.ntmps = 74 := rfl
@[simp] theorem results29 : i29.results = [(ResultVar.tmp 6), (ResultVar.tmp 7)] := rfl
@[simp] theorem res29 : i29.res = [[0], [0]] := rfl
def I29_0 (a_weights : Int) (a_apply : (List (List Int))) (l : (List Arc)) (p : (List Int))  (i : Nat) (fr : Fr) (S : St) : Prop := ∃ f : Nat → AV, fr = frOf 74 f ∧ f 1 = .ts .imm 3 (l.map encArc) ∧ f 2 = .ts .imm 1 (p.map encInt) ∧ f 3 = .ptr 0 0 0 ∧ f 24 = .ts .imm 1 (p.map encInt) ∧ f 25 = .int .i64 p.length ∧ f 26 = .int .i64 i ∧ S = [some ⟨.box, 2, [[.int .i64 a_weights, .ts .imm 1 (a_apply.map (encLInt .imm))]]⟩] ∧ allB i (nodeP p) = true
def R29_0 (a_weights : Int) (a_apply : (List (List Int))) (l : (List Arc)) (p : (List Int))  (r : Option (Ex × Fr × St)) : Prop := (∃ f : Nat → AV, r = some (.ret, frOf 74 f, [some ⟨.box, 2, [[.int .i64 a_weights, .ts .imm 1 (a_apply.map (encLInt .imm))]]⟩]) ∧ f 6 = .int .i64 0 ∧ f 7 = .bool false ∧ allB p.length (nodeP p) = false) ∨ (∃ f : Nat → AV, r = some (.exit 0, frOf 74 f, [some ⟨.box, 2, [[.int .i64 a_weights, .ts .imm 1 (a_apply.map (encLInt .imm))]]⟩]) ∧ f 1 = .ts .imm 3 (l.map encArc) ∧ f 2 = .ts .imm 1 (p.map encInt) ∧ f 3 = .ptr 0 0 0 ∧ allB p.length (nodeP p) = true)
theorem L29_0 (a_weights : Int) (a_apply : (List (List Int))) (l : (List Arc)) (p : (List Int)) (ha0 : a_apply.length ≤ 1048576) (ha1 : smsLInt a_apply) (h0 : l.length ≤ 1048576) (h1 : p.length ≤ 1048576)   : ∀ i fr S, i ≤ p.length → I29_0 a_weights a_apply l p  i fr S → R29_0 a_weights a_apply l p  (evCL T 0 (.loop l29_0) fr S) := by
  refine loopQ _ _ _ ?_ ?_
  · rintro i fr S hi ⟨f, rfl, t1, t2, t3, t24, t25, t26, rfl, hf⟩
    have hwi : IntKind.i64.wrap ((i : Int) + 1) = (i : Int) + 1 := wrap64 (by omega) (by omega)
    have hile : i ≤ p.length := Nat.le_of_lt hi
    have hmin : min i p.length = i := by omega
    have hib : i ≤ 1048576 := by omega
    by_cases ht1 : inR (nth p i) 0 5 = true
    · by_cases ht2 : hasI (p.take i) (nth p i) = true
      · simp -implicitDefEqProofs [r29_0, r29_1, r29_2, r29_3, r29_4, r29_5, r29_6, r29_7, r29_8, r29_9, r29_10, r29_11, r29_12, r29_13, r29_14, r29_15, r29_16, r29_17, l29_0, ha0, ha1, h0, h1, call48, callz48, e48, call63, callz63, e63, call64, callz64, e64, call65, callz65, e65, call66, callz66, e66, -List.getElem?_map, -getElem?_pos, List.getElem?_cons_zero, map_get, -List.map_take, -List.map_drop, take_map, drop_map, upd_ne, frOf_set, frOf_get, frOf_getD, encInt, encLInt, t1, t2, t3, t24, t25, t26, hi, hwi, hile, hmin, hib, ht1, ht2]
        refine .ret _ _ (Or.inl ⟨_, rfl, (by first | rfl | assumption | simp [upd, *]), (by first | rfl | assumption | simp [upd, *]), ?_⟩); exact allB_no hi (by simp [nodeP, ht2])
      · simp -implicitDefEqProofs [r29_0, r29_1, r29_2, r29_3, r29_4, r29_5, r29_6, r29_7, r29_8, r29_9, r29_10, r29_11, r29_12, r29_13, r29_14, r29_15, r29_16, r29_17, l29_0, ha0, ha1, h0, h1, call48, callz48, e48, call63, callz63, e63, call64, callz64, e64, call65, callz65, e65, call66, callz66, e66, -List.getElem?_map, -getElem?_pos, List.getElem?_cons_zero, map_get, -List.map_take, -List.map_drop, take_map, drop_map, upd_ne, frOf_set, frOf_get, frOf_getD, encInt, encLInt, t1, t2, t3, t24, t25, t26, hi, hwi, hile, hmin, hib, ht1, ht2]
        refine .go _ _ ⟨_, rfl, (by first | rfl | assumption | simp [upd, *]), (by first | rfl | assumption | simp [upd, *]), (by first | rfl | assumption | simp [upd, *]), (by first | rfl | assumption | simp [upd, *]), (by first | rfl | assumption | simp [upd, *]), (by first | rfl | assumption | simp [upd, *]), rfl, ?_⟩; rw [allB_succ, hf]; simp [nodeP, ht1, ht2]
    · simp -implicitDefEqProofs [r29_0, r29_1, r29_2, r29_3, r29_4, r29_5, r29_6, r29_7, r29_8, r29_9, r29_10, r29_11, r29_12, r29_13, r29_14, r29_15, r29_16, r29_17, l29_0, ha0, ha1, h0, h1, call48, callz48, e48, call63, callz63, e63, call64, callz64, e64, call65, callz65, e65, call66, callz66, e66, -List.getElem?_map, -getElem?_pos, List.getElem?_cons_zero, map_get, -List.map_take, -List.map_drop, take_map, drop_map, upd_ne, frOf_set, frOf_get, frOf_getD, encInt, encLInt, t1, t2, t3, t24, t25, t26, hi, hwi, hile, hmin, hib, ht1]
      refine .ret _ _ (Or.inl ⟨_, rfl, (by first | rfl | assumption | simp [upd, *]), (by first | rfl | assumption | simp [upd, *]), ?_⟩); exact allB_no hi (by simp [nodeP, ht1])
  · rintro fr S ⟨f, rfl, t1, t2, t3, t24, t25, t26, rfl, hf⟩
    simp -implicitDefEqProofs [r29_0, r29_1, r29_2, r29_3, r29_4, r29_5, r29_6, r29_7, r29_8, r29_9, r29_10, r29_11, r29_12, r29_13, r29_14, r29_15, r29_16, r29_17, l29_0, ha0, ha1, h0, h1, call48, callz48, e48, call63, callz63, e63, call64, callz64, e64, call65, callz65, e65, call66, callz66, e66, -List.getElem?_map, -getElem?_pos, List.getElem?_cons_zero, map_get, -List.map_take, -List.map_drop, take_map, drop_map, upd_ne, frOf_set, frOf_get, frOf_getD, encInt, encLInt, t1, t2, t3, t24, t25, t26]
    refine .exit _ _ _ (Or.inr ⟨_, rfl, (by first | rfl | assumption | simp [upd, *]), (by first | rfl | assumption | simp [upd, *]), (by first | rfl | assumption | simp [upd, *]), ?_⟩)
    first | trivial | assumption | simp [*]
def I29_1 (a_weights : Int) (a_apply : (List (List Int))) (l : (List Arc)) (p : (List Int))  (i : Nat) (fr : Fr) (S : St) : Prop := ∃ f : Nat → AV, ∃ w : Int, fr = frOf 74 f ∧ f 1 = .ts .imm 3 (l.map encArc) ∧ f 2 = .ts .imm 1 (p.map encInt) ∧ f 3 = .ptr 0 0 0 ∧ f 10 = .int .i64 w ∧ f 11 = .int .i64 ((i : Int) - 1) ∧ S = [some ⟨.box, 2, [[.int .i64 a_weights, .ts .imm 1 (a_apply.map (encLInt .imm))]]⟩] ∧ (i ≤ p.length - 1 ∧ 0 ≤ w ∧ w < a_weights ∧ wtGo a_apply l p i w = wtGo a_apply l p (p.length - 1) 0)
def R29_1 (a_weights : Int) (a_apply : (List (List Int))) (l : (List Arc)) (p : (List Int))  (r : Option (Ex × Fr × St)) : Prop := (∃ f : Nat → AV, r = some (.ret, frOf 74 f, [some ⟨.box, 2, [[.int .i64 a_weights, .ts .imm 1 (a_apply.map (encLInt .imm))]]⟩]) ∧ f 6 = .int .i64 0 ∧ f 7 = .bool false ∧ wtGo a_apply l p (p.length - 1) 0 = none) ∨ (∃ f : Nat → AV, ∃ w : Int, r = some (.exit 2, frOf 74 f, [some ⟨.box, 2, [[.int .i64 a_weights, .ts .imm 1 (a_apply.map (encLInt .imm))]]⟩]) ∧ f 10 = .int .i64 w ∧ wtGo a_apply l p (p.length - 1) 0 = some w)
theorem L29_1 (a_weights : Int) (a_apply : (List (List Int))) (l : (List Arc)) (p : (List Int)) (ha0 : a_apply.length ≤ 1048576) (ha1 : smsLInt a_apply) (h0 : l.length ≤ 1048576) (h1 : p.length ≤ 1048576)  (harcs : arcsB (⟨a_weights, a_apply⟩ : Algebra) l = true) : ∀ i fr S, I29_1 a_weights a_apply l p  i fr S → R29_1 a_weights a_apply l p  (evCL T 0 (.loop l29_1) fr S) := by
  refine loopM _ _ ?_
  rintro i fr S ⟨f, w, rfl, t1, t2, t3, t10, t11, rfl, hf⟩
  rcases i with _ | i
  · simp -implicitDefEqProofs [r29_0, r29_1, r29_2, r29_3, r29_4, r29_5, r29_6, r29_7, r29_8, r29_9, r29_10, r29_11, r29_12, r29_13, r29_14, r29_15, r29_16, r29_17, l29_1, ha0, ha1, h0, h1, call48, callz48, e48, call63, callz63, e63, call64, callz64, e64, call65, callz65, e65, call66, callz66, e66, -List.getElem?_map, -getElem?_pos, List.getElem?_cons_zero, map_get, -List.map_take, -List.map_drop, take_map, drop_map, upd_ne, frOf_set, frOf_get, frOf_getD, encInt, encLInt, t1, t2, t3, t10, t11]
    refine .exit _ _ _ (Or.inr ⟨_, _, rfl, (by first | rfl | assumption | simp [upd, *]), ?_⟩); simpa [wtGo] using hf.2.2.2.symm
  · obtain ⟨hk, hz, hw, hg⟩ := hf
    have hk1 : i + 1 < p.length := by omega
    have hk0 : i < p.length := by omega
    have hs : (i : Int) + 1 < (p.length : Int) := by omega
    have hz1 : (0 : Int) ≤ (i : Int) + 1 := by omega
    have hw0 : IntKind.i64.wrap ((i : Int) - 1) = (i : Int) - 1 := wrap64 (by omega) (by omega)
    have hw1 : IntKind.i64.wrap ((i : Int) + 1) = (i : Int) + 1 := wrap64 (by omega) (by omega)
    simp only [wtGo] at hg
    cases hq : arcOf (nth p i) (nth p (i + 1)) l with
    | none =>
      simp only [hq] at hg
      simp -implicitDefEqProofs [r29_0, r29_1, r29_2, r29_3, r29_4, r29_5, r29_6, r29_7, r29_8, r29_9, r29_10, r29_11, r29_12, r29_13, r29_14, r29_15, r29_16, r29_17, l29_1, ha0, ha1, h0, h1, call48, callz48, e48, call63, callz63, e63, call64, callz64, e64, call65, callz65, e65, call66, callz66, e66, -List.getElem?_map, -getElem?_pos, List.getElem?_cons_zero, map_get, -List.map_take, -List.map_drop, take_map, drop_map, upd_ne, frOf_set, frOf_get, frOf_getD, encInt, encLInt, t1, t2, t3, t10, t11, hk1, hk0, hs, hz1, hw0, hw1, hq]
      refine .ret _ _ (Or.inl ⟨_, rfl, (by first | rfl | assumption | simp [upd, *]), (by first | rfl | assumption | simp [upd, *]), ?_⟩); exact hg.symm
    | some lab =>
      simp only [hq] at hg
      obtain ⟨hl0, hl1⟩ := arcsB_label harcs hq
      dsimp only at hl1
      have halg : algB (⟨a_weights, a_apply⟩ : Algebra) = true := by simp only [arcsB, Bool.and_eq_true] at harcs; exact harcs.1.1
      have hl2 : lab.toNat < a_apply.length := by omega
      obtain ⟨hr0, hr1, hr2, hr3⟩ := alg_row halg hl2
      dsimp only at hr0 hr1 hr2 hr3
      have hw2 : w.toNat < (nth a_apply lab.toNat).length := by omega
      have hw3 : w < ((nth a_apply lab.toNat).length : Int) := by omega
      have hr4 := hr3 _ hw2
      have hnl : ¬ lab < 0 := by omega
      simp -implicitDefEqProofs [r29_0, r29_1, r29_2, r29_3, r29_4, r29_5, r29_6, r29_7, r29_8, r29_9, r29_10, r29_11, r29_12, r29_13, r29_14, r29_15, r29_16, r29_17, l29_1, ha0, ha1, h0, h1, call48, callz48, e48, call63, callz63, e63, call64, callz64, e64, call65, callz65, e65, call66, callz66, e66, -List.getElem?_map, -getElem?_pos, List.getElem?_cons_zero, map_get, -List.map_take, -List.map_drop, take_map, drop_map, upd_ne, frOf_set, frOf_get, frOf_getD, encInt, encLInt, t1, t2, t3, t10, t11, hk1, hk0, hs, hz1, hw0, hw1, hq, hl0, hl1, hl2, hw2, hw3, hz, hnl]
      refine .go _ _ (i) (by omega) ⟨_, _, rfl, (by first | rfl | assumption | simp [upd, *]), (by first | rfl | assumption | simp [upd, *]), (by first | rfl | assumption | simp [upd, *]), (by first | rfl | assumption | simp [upd, *]), (by first | rfl | assumption | simp [upd, *]), rfl, ?_⟩; exact ⟨by omega, hr4.1, hr4.2, hg⟩
theorem e29 (a_weights : Int) (a_apply : (List (List Int))) (l : (List Arc)) (p : (List Int)) (ha0 : a_apply.length ≤ 1048576) (ha1 : smsLInt a_apply) (h0 : l.length ≤ 1048576) (h1 : p.length ≤ 1048576) : evFL T 29 [.agg [.int .i64 a_weights, .ts .imm 1 (a_apply.map (encLInt .imm))], .ts .imm 3 (l.map encArc), .ts .imm 1 (p.map encInt)] [] = some (.tup [.int .i64 (weightOf (⟨a_weights, a_apply⟩ : Algebra) l p).1, .bool (weightOf (⟨a_weights, a_apply⟩ : Algebra) l p).2], []) := by
  rw [evFL_at fn29 (by simp)]
  cases hg : arcsB (⟨a_weights, a_apply⟩ : Algebra) l
  · simp -implicitDefEqProofs [c29, r29_0, r29_1, r29_2, r29_3, r29_4, r29_5, r29_6, r29_7, r29_8, r29_9, r29_10, r29_11, r29_12, r29_13, r29_14, r29_15, r29_16, r29_17, ha0, ha1, h0, h1, call48, callz48, e48, call63, callz63, e63, call64, callz64, e64, call65, callz65, e65, call66, callz66, e66, -List.getElem?_map, -getElem?_pos, List.getElem?_cons_zero, map_get, -List.map_take, -List.map_drop, take_map, drop_map, upd_ne, frOf_set, frOf_get, frOf_getD, encInt, encLInt, hg, weightOf]
  cases hn : inR (p.length : Int) 1 6
  · simp -implicitDefEqProofs [c29, r29_0, r29_1, r29_2, r29_3, r29_4, r29_5, r29_6, r29_7, r29_8, r29_9, r29_10, r29_11, r29_12, r29_13, r29_14, r29_15, r29_16, r29_17, ha0, ha1, h0, h1, call48, callz48, e48, call63, callz63, e63, call64, callz64, e64, call65, callz65, e65, call66, callz66, e66, -List.getElem?_map, -getElem?_pos, List.getElem?_cons_zero, map_get, -List.map_take, -List.map_drop, take_map, drop_map, upd_ne, frOf_set, frOf_get, frOf_getD, encInt, encLInt, hg, hn, weightOf, nodesB]
  have hn1 : 1 ≤ (p.length : Int) ∧ (p.length : Int) ≤ 6 := by simpa [inR] using hn
  have hwl : IntKind.i64.wrap ((p.length : Int) - 2) = ((p.length - 1 : Nat) : Int) - 1 := by rw [wrap64 (by omega) (by omega)]; omega
  have halg : algB (⟨a_weights, a_apply⟩ : Algebra) = true := by simp only [arcsB, Bool.and_eq_true] at hg; exact hg.1.1
  have hwt : 2 ≤ a_weights := by simp only [algB, inR, Bool.and_eq_true, decide_eq_true_eq] at halg; exact halg.1.1.1
  simp -implicitDefEqProofs [c29, r29_0, r29_1, r29_2, r29_3, r29_4, r29_5, r29_6, r29_7, r29_8, r29_9, r29_10, r29_11, r29_12, r29_13, r29_14, r29_15, r29_16, r29_17, ha0, ha1, h0, h1, call48, callz48, e48, call63, callz63, e63, call64, callz64, e64, call65, callz65, e65, call66, callz66, e66, -List.getElem?_map, -getElem?_pos, List.getElem?_cons_zero, map_get, -List.map_take, -List.map_drop, take_map, drop_map, upd_ne, frOf_set, frOf_get, frOf_getD, encInt, encLInt, hg, hn]
  generalize hr : evCL T 0 (.loop l29_0) _ _ = r
  have h : R29_0 a_weights a_apply l p  r := by rw [← hr]; exact L29_0 a_weights a_apply l p ha0 ha1 h0 h1  (0) _ _ (by omega) ⟨_, rfl, (by simp [upd, *]), (by simp [upd, *]), (by simp [upd, *]), (by simp [upd, *]), (by simp [upd, *]), (by simp [upd, *]), rfl, by first | trivial | assumption | simp⟩
  clear hr
  rcases h with h | h
  · obtain ⟨f0, rfl, u0_6, u0_7, hf0⟩ := h
    simp -implicitDefEqProofs [r29_0, r29_1, r29_2, r29_3, r29_4, r29_5, r29_6, r29_7, r29_8, r29_9, r29_10, r29_11, r29_12, r29_13, r29_14, r29_15, r29_16, r29_17, ha0, ha1, h0, h1, call48, callz48, e48, call63, callz63, e63, call64, callz64, e64, call65, callz65, e65, call66, callz66, e66, -List.getElem?_map, -getElem?_pos, List.getElem?_cons_zero, map_get, -List.map_take, -List.map_drop, take_map, drop_map, upd_ne, frOf_set, frOf_get, frOf_getD, encInt, encLInt, u0_6, u0_7, hf0, weightOf, nodesB]
  obtain ⟨f0, rfl, u0_1, u0_2, u0_3, hf0⟩ := h
  simp -implicitDefEqProofs [r29_0, r29_1, r29_2, r29_3, r29_4, r29_5, r29_6, r29_7, r29_8, r29_9, r29_10, r29_11, r29_12, r29_13, r29_14, r29_15, r29_16, r29_17, ha0, ha1, h0, h1, call48, callz48, e48, call63, callz63, e63, call64, callz64, e64, call65, callz65, e65, call66, callz66, e66, -List.getElem?_map, -getElem?_pos, List.getElem?_cons_zero, map_get, -List.map_take, -List.map_drop, take_map, drop_map, upd_ne, frOf_set, frOf_get, frOf_getD, encInt, encLInt, u0_1, u0_2, u0_3, hf0, hwl, hf0]
  generalize hr : evCL T 0 (.loop l29_1) _ _ = r
  have h : R29_1 a_weights a_apply l p  r := by rw [← hr]; exact L29_1 a_weights a_apply l p ha0 ha1 h0 h1 hg (p.length - 1) _ _ ⟨_, (0), rfl, (by simp [upd, *]), (by simp [upd, *]), (by simp [upd, *]), (by simp [upd, *]), (by simp [upd, *]), rfl, ⟨by omega, by omega, by omega, rfl⟩⟩
  clear hr
  rcases h with h | h
  · obtain ⟨f1, rfl, u1_6, u1_7, hf1⟩ := h
    simp -implicitDefEqProofs [r29_0, r29_1, r29_2, r29_3, r29_4, r29_5, r29_6, r29_7, r29_8, r29_9, r29_10, r29_11, r29_12, r29_13, r29_14, r29_15, r29_16, r29_17, ha0, ha1, h0, h1, call48, callz48, e48, call63, callz63, e63, call64, callz64, e64, call65, callz65, e65, call66, callz66, e66, -List.getElem?_map, -getElem?_pos, List.getElem?_cons_zero, map_get, -List.map_take, -List.map_drop, take_map, drop_map, upd_ne, frOf_set, frOf_get, frOf_getD, encInt, encLInt, u1_6, u1_7, hf1, weightOf, nodesB, hg, hn, hf0]
  obtain ⟨f1, w, rfl, u1_10, hf1⟩ := h
  simp -implicitDefEqProofs [r29_0, r29_1, r29_2, r29_3, r29_4, r29_5, r29_6, r29_7, r29_8, r29_9, r29_10, r29_11, r29_12, r29_13, r29_14, r29_15, r29_16, r29_17, ha0, ha1, h0, h1, call48, callz48, e48, call63, callz63, e63, call64, callz64, e64, call65, callz65, e65, call66, callz66, e66, -List.getElem?_map, -getElem?_pos, List.getElem?_cons_zero, map_get, -List.map_take, -List.map_drop, take_map, drop_map, upd_ne, frOf_set, frOf_get, frOf_getD, encInt, encLInt, u0_1, u0_2, u0_3, u1_10, hf0, hf1, weightOf, nodesB, hg, hn]
-- laws.eqArc
@[simp] theorem call67 {m : Nat} (args : List AV) (S : St) : evCall T m (evFL T) 67 args S = lendC (evFL T 67) S (lendAll S i67.pes args) := evCall0 fn67 rfl rfl args S
@[simp] theorem callz67 (args : List AV) (S : St) : evCallFz T (evFL T) 67 args S = lendZ (evFL T 67) S i67.res (lendAll S i67.pes args) := evCallFz0 fn67 rfl rfl args S
@[simp] theorem pes67 : i67.pes = [[0, 0, 0], [0, 0, 0]] := rfl
@[simp] theorem body67 : i67.body = c67 := rfl
@[simp] theorem kind67 : i67.kind = 0 := rfl
@[simp] theorem tree67 : i67.tree = false := rfl
@[simp] theorem ntmps67 : i67.ntmps = 20 := rfl
@[simp] theorem results67 : i67.results = [(ResultVar.tmp 4)] := rfl
@[simp] theorem res67 : i67.res = [[0]] := rfl
theorem e67 (a_from_ : Int) (a_to : Int) (a_label : Int)  : evFL T 67 [.agg [.int .i64 a_from_, .int .i64 a_to, .int .i64 a_label], .agg [.int .i64 a_from_, .int .i64 a_to, .int .i64 a_label]] [] = some (.bool true, []) := by
  rw [evFL_at fn67 (by simp)]
  all_goals simp -implicitDefEqProofs [c67, r67_0, r67_1, r67_2, r67_3, r67_4, r67_5, r67_6, r67_7, -List.getElem?_map, -getElem?_pos, List.getElem?_cons_zero, map_get, -List.map_take, -List.map_drop, take_map, drop_map, upd_ne, frOf_set, frOf_get, frOf_getD]
-- laws.eqArcS
@[simp] theorem call30 {m : Nat} (args : List AV) (S : St) : evCall T m (evFL T) 30 args S = lendC (evFL T 30) S (lendAll S i30.pes args) := evCall0 fn30 rfl rfl args S
@[simp] theorem callz30 (args : List AV) (S : St) : evCallFz T (evFL T) 30 args S = lendZ (evFL T 30) S i30.res (lendAll S i30.pes args) := evCallFz0 fn30 rfl rfl args S
@[simp] theorem pes30 : i30.pes = [[3], [3]] := rfl
@[simp] theorem body30 : i30.body = c30 := rfl
@[simp] theorem kind30 : i30.kind = 0 := rfl
@[simp] theorem tree30 : i30.tree = false := rfl
@[simp] theorem ntmps30 : i30.ntmps = 27 := rfl
@[simp] theorem results30 : i30.results = [(ResultVar.tmp 4)] := rfl
@[simp] theorem res30 : i30.res = [[0]] := rfl
def I30_0 (a : (List Arc))  (i : Nat) (fr : Fr) (S : St) : Prop := ∃ f : Nat → AV, fr = frOf 27 f ∧ f 0 = .ts .imm 3 (a.map encArc) ∧ f 1 = .ts .imm 3 (a.map encArc) ∧ f 5 = .int .i64 i ∧ S = [] ∧ True
def R30_0 (a : (List Arc))  (r : Option (Ex × Fr × St)) : Prop := (∃ f : Nat → AV, r = some (.exit 0, frOf 27 f, []) ∧ True)
theorem L30_0 (a : (List Arc)) (ha0 : a.length ≤ 1048576)   : ∀ i fr S, i ≤ a.length → I30_0 a  i fr S → R30_0 a  (evCL T 0 (.loop l30_0) fr S) := by
  refine loopQ _ _ _ ?_ ?_
  · rintro i fr S hi ⟨f, rfl, t0, t1, t5, rfl, hf⟩
    have hwi : IntKind.i64.wrap ((i : Int) + 1) = (i : Int) + 1 := wrap64 (by omega) (by omega)
    all_goals simp -implicitDefEqProofs [r30_0, r30_1, r30_2, r30_3, r30_4, r30_5, r30_6, r30_7, r30_8, l30_0, ha0, call67, callz67, e67, -List.getElem?_map, -getElem?_pos, List.getElem?_cons_zero, map_get, -List.map_take, -List.map_drop, take_map, drop_map, upd_ne, frOf_set, frOf_get, frOf_getD, encArc, t0, t1, t5, hi, hwi]
    all_goals first | (refine .go _ _ ⟨_, rfl, (by first | rfl | assumption | simp [upd, *]), (by first | rfl | assumption | simp [upd, *]), (by first | rfl | assumption | simp [upd, *]), rfl, ?_⟩; first | trivial | assumption | simp [*]) | (refine .exit _ _ _ ⟨_, rfl, ?_⟩; first | trivial | assumption | simp [*])
  · rintro fr S ⟨f, rfl, t0, t1, t5, rfl, hf⟩
    simp -implicitDefEqProofs [r30_0, r30_1, r30_2, r30_3, r30_4, r30_5, r30_6, r30_7, r30_8, l30_0, ha0, call67, callz67, e67, -List.getElem?_map, -getElem?_pos, List.getElem?_cons_zero, map_get, -List.map_take, -List.map_drop, take_map, drop_map, upd_ne, frOf_set, frOf_get, frOf_getD, encArc, t0, t1, t5]
    refine .exit _ _ _ ⟨_, rfl, ?_⟩
    first | trivial | assumption | simp [*]
theorem e30 (a : (List Arc)) (ha0 : a.length ≤ 1048576) : evFL T 30 [.ts .imm 3 (a.map encArc), .ts .imm 3 (a.map encArc)] [] = some (.bool true, []) := by
  rw [evFL_at fn30 (by simp)]
  simp -implicitDefEqProofs [c30, r30_0, r30_1, r30_2, r30_3, r30_4, r30_5, r30_6, r30_7, r30_8, ha0, call67, callz67, e67, -List.getElem?_map, -getElem?_pos, List.getElem?_cons_zero, map_get, -List.map_take, -List.map_drop, take_map, drop_map, upd_ne, frOf_set, frOf_get, frOf_getD, encArc]
  generalize hr : evCL T 0 (.loop l30_0) _ _ = r
  have h : R30_0 a  r := by rw [← hr]; exact L30_0 a ha0  (0) _ _ (by omega) ⟨_, rfl, (by simp [upd, *]), (by simp [upd, *]), (by simp [upd, *]), rfl, by first | trivial | assumption | simp⟩
  clear hr
  obtain ⟨f0, rfl, hf0⟩ := h
  simp -implicitDefEqProofs [r30_0, r30_1, r30_2, r30_3, r30_4, r30_5, r30_6, r30_7, r30_8, ha0, call67, callz67, e67, -List.getElem?_map, -getElem?_pos, List.getElem?_cons_zero, map_get, -List.map_take, -List.map_drop, take_map, drop_map, upd_ne, frOf_set, frOf_get, frOf_getD, encArc, hf0] <;> try omega
end Go.Pi.Ytbohlpligkfkiaa.WeightOf
