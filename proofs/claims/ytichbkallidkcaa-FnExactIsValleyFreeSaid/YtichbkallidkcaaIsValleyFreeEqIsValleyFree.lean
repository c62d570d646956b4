/- What functions of the program answer, and that the law answers true at every input; no condition -/
import Derived.Test.YtichbkallidkcaaIsValleyFreeTabIsValleyFree
import Derived.Test.YtichbkallidkcaaPiC
set_option linter.all false
/- Functions of the program, by equations. -/
namespace Go.Pi.Ytichbkallidkcaa.IsValleyFree
open Go Go.Proofs Go.Pi 
set_option maxRecDepth 100000
set_option linter.unusedSimpArgs false
set_option linter.unusedVariables false
def encInt (x : Int) : List AV := [.int .i64 x]
@[simp] theorem own_encInt (x : Int) : ownOnlyL (encInt x) = true := by simp [encInt, ownOnlyL, ownOnly]
@[simp] theorem setQL_encInt (q : Ql) (x : Int) : setQL q (encInt x) = encInt x := rfl
structure Rel where
  a : Int
  b : Int
  kind : Int
  deriving Inhabited
@[simp] theorem Rel.eta (x : Rel) : (⟨x.a, x.b, x.kind⟩ : Rel) = x := rfl
def encRel (x : Rel) : List AV := [.int .i64 x.a, .int .i64 x.b, .int .i64 x.kind]
@[simp] theorem own_encRel (x : Rel) : ownOnlyL (encRel x) = true := by simp [encRel, ownOnlyL, ownOnly]
@[simp] theorem setQL_encRel (q : Ql) (x : Rel) : setQL q (encRel x) = encRel x := rfl
def encLRel (q : Ql) (x : (List Rel)) : List AV := [.ts q 3 (x.map encRel)]
@[simp] theorem own_encLRel (x : (List Rel)) : ownOnlyL (encLRel .own x) = true := by simp [encLRel, ownOnlyL, ownOnly]
@[simp] theorem setQL_encLRel (q q1 : Ql) (x : (List Rel)) : setQL q (encLRel q1 x) = encLRel q x := by simp [encLRel, Function.comp_def]
def smLRel (x : (List Rel)) : Prop := (x.length ≤ 1048576)
def smsLRel (x : List (List Rel)) : Prop := ∀ y ∈ x, smLRel y
def wfLRel (x : (List Rel)) : Prop := (x.length ≤ 9223372036854775807)
def wfsLRel (x : List (List Rel)) : Prop := ∀ y ∈ x, wfLRel y
def szLRel (x : (List Rel)) (l : Int) : Int := szL x.length (l)
theorem szLRel_le (x : (List Rel)) (l : Int) (h : 0 ≤ l) : szLRel x l ≤ l ∧ -1 ≤ szLRel x l ∧ (0 ≤ szLRel x l → l ≤ 1048576 → smLRel x) := szL_le x.length l h
def encLInt (q : Ql) (x : (List Int)) : List AV := [.ts q 1 (x.map encInt)]
@[simp] theorem own_encLInt (x : (List Int)) : ownOnlyL (encLInt .own x) = true := by simp [encLInt, ownOnlyL, ownOnly]
@[simp] theorem setQL_encLInt (q q1 : Ql) (x : (List Int)) : setQL q (encLInt q1 x) = encLInt q x := by simp [encLInt, Function.comp_def]
def smLInt (x : (List Int)) : Prop := (x.length ≤ 1048576)
def smsLInt (x : List (List Int)) : Prop := ∀ y ∈ x, smLInt y
def wfLInt (x : (List Int)) : Prop := (x.length ≤ 9223372036854775807)
def wfsLInt (x : List (List Int)) : Prop := ∀ y ∈ x, wfLInt y
def szLInt (x : (List Int)) (l : Int) : Int := szL x.length (l)
theorem szLInt_le (x : (List Int)) (l : Int) (h : 0 ≤ l) : szLInt x l ≤ l ∧ -1 ≤ szLInt x l ∧ (0 ≤ szLInt x l → l ≤ 1048576 → smLInt x) := szL_le x.length l h
-- laws.szRelS
@[simp] theorem call11 {m : Nat} (args : List AV) (S : St) : evCall T m (evFL T) 11 args S = lendC (evFL T 11) S (lendAll S i11.pes args) := evCall0 fn11 rfl rfl args S
@[simp] theorem callz11 (args : List AV) (S : St) : evCallFz T (evFL T) 11 args S = lendZ (evFL T 11) S i11.res (lendAll S i11.pes args) := evCallFz0 fn11 rfl rfl args S
@[simp] theorem pes11 : i11.pes = [[3], [0]] := rfl
@[simp] theorem body11 : i11.body = c11 := rfl
@[simp] theorem kind11 : i11.kind = 0 := rfl
@[simp] theorem tree11 : i11.tree = false := rfl
@[simp] theorem ntmps11 : i11.ntmps = 12 := rfl
@[simp] theorem results11 : i11.results = [(ResultVar.tmp 4)] := rfl
@[simp] theorem res11 : i11.res = [[0]] := rfl
theorem e11 (a : (List Rel)) (l : Int) (hw0 : a.length ≤ 9223372036854775807) (hl0 : 0 ≤ l) (hl1 : l ≤ 1048576) : evFL T 11 [.ts .imm 3 (a.map encRel), .int .i64 l] [] = some (.int .i64 (szLRel a l), []) := by
  rw [evFL_at fn11 (by simp)]
  have hn : IntKind.i64.wrap (l - (a.length : Int)) = l - (a.length : Int) := wrap64 (by omega) (by omega)
  by_cases hc0 : l - (a.length : Int) < 0
  all_goals simp -implicitDefEqProofs [c11, r11_0, r11_1, r11_2, r11_3, r11_4, hw0, hl0, hl1, -List.getElem?_map, -getElem?_pos, List.getElem?_cons_zero, map_get, -List.map_take, -List.map_drop, take_map, drop_map, upd_ne, frOf_set, frOf_get, frOf_getD, hn, szL, szLRel, hc0]
-- laws.toRel
@[simp] theorem call40 {m : Nat} (args : List AV) (S : St) : evCall T m (evFL T) 40 args S = lendC (evFL T 40) S (lendAll S i40.pes args) := evCall0 fn40 rfl rfl args S
@[simp] theorem callz40 (args : List AV) (S : St) : evCallFz T (evFL T) 40 args S = lendZ (evFL T 40) S i40.res (lendAll S i40.pes args) := evCallFz0 fn40 rfl rfl args S
@[simp] theorem pes40 : i40.pes = [[0, 0, 0]] := rfl
@[simp] theorem body40 : i40.body = c40 := rfl
@[simp] theorem kind40 : i40.kind = 0 := rfl
@[simp] theorem tree40 : i40.tree = false := rfl
@[simp] theorem ntmps40 : i40.ntmps = 14 := rfl
@[simp] theorem results40 : i40.results = [(ResultVar.cell 2 63)] := rfl
@[simp] theorem res40 : i40.res = [[0, 0, 0]] := rfl
theorem e40 (a_a : Int) (a_b : Int) (a_kind : Int)  : evFL T 40 [.agg [.int .i64 a_a, .int .i64 a_b, .int .i64 a_kind]] [] = some (.agg [.int .i64 a_a, .int .i64 a_b, .int .i64 a_kind], []) := by
  rw [evFL_at fn40 (by simp)]
  all_goals simp -implicitDefEqProofs [c40, r40_0, r40_1, r40_2, r40_3, r40_4, r40_5, -List.getElem?_map, -getElem?_pos, List.getElem?_cons_zero, map_get, -List.map_take, -List.map_drop, take_map, drop_map, upd_ne, frOf_set, frOf_get, frOf_getD]
theorem fset13 {a : (List Rel)} {i : Nat} (h : i < a.length) : (filled encRel [.int .i64 0, .int .i64 0, .int .i64 0] a i).set i [.int .i64 (nth a i).a, .int .i64 (nth a i).b, .int .i64 (nth a i).kind] = filled encRel [.int .i64 0, .int .i64 0, .int .i64 0] a (i + 1) := filled_set h
-- laws.toRelS
@[simp] theorem call13 {m : Nat} (args : List AV) (S : St) : evCall T m (evFL T) 13 args S = lendC (evFL T 13) S (lendAll S i13.pes args) := evCall0 fn13 rfl rfl args S
@[simp] theorem callz13 (args : List AV) (S : St) : evCallFz T (evFL T) 13 args S = lendZ (evFL T 13) S i13.res (lendAll S i13.pes args) := evCallFz0 fn13 rfl rfl args S
@[simp] theorem pes13 : i13.pes = [[3]] := rfl
@[simp] theorem body13 : i13.body = c13 := rfl
@[simp] theorem kind13 : i13.kind = 0 := rfl
@[simp] theorem tree13 : i13.tree = false := rfl
@[simp] theorem ntmps13 : i13.ntmps = 23 := rfl
@[simp] theorem results13 : i13.results = [(ResultVar.tmp 2)] := rfl
@[simp] theorem res13 : i13.res = [[3]] := rfl
def I13_0 (a : (List Rel))  (i : Nat) (fr : Fr) (S : St) : Prop := ∃ f : Nat → AV, fr = frOf 23 f ∧ f 0 = .ts .imm 3 (a.map encRel) ∧ f 3 = .sl 0 0 a.length ∧ f 4 = .int .i64 i ∧ S = [some ⟨.arr, 3, filled encRel [.int .i64 0, .int .i64 0, .int .i64 0] a i⟩] ∧ True
def R13_0 (a : (List Rel))  (r : Option (Ex × Fr × St)) : Prop := (∃ f : Nat → AV, r = some (.exit 0, frOf 23 f, [some ⟨.arr, 3, filled encRel [.int .i64 0, .int .i64 0, .int .i64 0] a a.length⟩]) ∧ f 3 = .sl 0 0 a.length ∧ True)
theorem L13_0 (a : (List Rel)) (ha0 : a.length ≤ 1048576)   : ∀ i fr S, i ≤ a.length → I13_0 a  i fr S → R13_0 a  (evCL T 0 (.loop l13_0) fr S) := by
  refine loopQ _ _ _ ?_ ?_
  · rintro i fr S hi ⟨f, rfl, t0, t3, t4, rfl, hf⟩
    have hm : (a.length : Int) ≤ 4294967296 := by omega
    have hm1 : a.length ≤ 4294967296 := by omega
    have hwi : IntKind.i64.wrap ((i : Int) + 1) = (i : Int) + 1 := wrap64 (by omega) (by omega)
    all_goals simp -implicitDefEqProofs [r13_0, r13_1, r13_2, r13_3, r13_4, r13_5, r13_6, l13_0, ha0, call40, callz40, e40, -List.getElem?_map, -getElem?_pos, List.getElem?_cons_zero, map_get, -List.map_take, -List.map_drop, take_map, drop_map, upd_ne, frOf_set, frOf_get, frOf_getD, encRel, hm, hm1, fset13, filled_get, t0, t3, t4, hi, hwi]
    all_goals first | (refine .go _ _ ⟨_, rfl, (by first | rfl | assumption | simp [upd, *]), (by first | rfl | assumption | simp [upd, *]), (by first | rfl | assumption | simp [upd, *]), rfl, ?_⟩; first | trivial | assumption | simp [*]) | (refine .exit _ _ _ ⟨_, rfl, (by first | rfl | assumption | simp [upd, *]), ?_⟩; first | trivial | assumption | simp [*])
  · rintro fr S ⟨f, rfl, t0, t3, t4, rfl, hf⟩
    have hm : (a.length : Int) ≤ 4294967296 := by omega
    have hm1 : a.length ≤ 4294967296 := by omega
    simp -implicitDefEqProofs [r13_0, r13_1, r13_2, r13_3, r13_4, r13_5, r13_6, l13_0, ha0, call40, callz40, e40, -List.getElem?_map, -getElem?_pos, List.getElem?_cons_zero, map_get, -List.map_take, -List.map_drop, take_map, drop_map, upd_ne, frOf_set, frOf_get, frOf_getD, encRel, hm, hm1, fset13, filled_get, t0, t3, t4]
    refine .exit _ _ _ ⟨_, rfl, (by first | rfl | assumption | simp [upd, *]), ?_⟩
    first | trivial | assumption | simp [*]
theorem e13 (a : (List Rel)) (ha0 : a.length ≤ 1048576) : evFL T 13 [.ts .imm 3 (a.map encRel)] [] = some (.sl 0 0 a.length, [some ⟨.arr, 3, a.map encRel⟩]) := by
  rw [evFL_at fn13 (by simp)]
  have hm : (a.length : Int) ≤ 4294967296 := by omega
  have hm1 : a.length ≤ 4294967296 := by omega
  simp -implicitDefEqProofs [c13, r13_0, r13_1, r13_2, r13_3, r13_4, r13_5, r13_6, ha0, call40, callz40, e40, -List.getElem?_map, -getElem?_pos, List.getElem?_cons_zero, map_get, -List.map_take, -List.map_drop, take_map, drop_map, upd_ne, frOf_set, frOf_get, frOf_getD, encRel, hm, hm1]
  generalize hr : evCL T 0 (.loop l13_0) _ _ = r
  have h : R13_0 a  r := by rw [← hr]; exact L13_0 a ha0  (0) _ _ (by omega) ⟨_, rfl, (by simp [upd, *]), (by simp [upd, *]), (by simp [upd, *]), by simp [← filled_zero], by first | trivial | assumption | simp⟩
  clear hr
  obtain ⟨f0, rfl, u0_3, hf0⟩ := h
  simp -implicitDefEqProofs [r13_0, r13_1, r13_2, r13_3, r13_4, r13_5, r13_6, ha0, call40, callz40, e40, -List.getElem?_map, -getElem?_pos, List.getElem?_cons_zero, map_get, -List.map_take, -List.map_drop, take_map, drop_map, upd_ne, frOf_set, frOf_get, frOf_getD, encRel, hm, hm1, u0_3, hf0, filled_end]
-- laws.eqRel
@[simp] theorem call44 {m : Nat} (args : List AV) (S : St) : evCall T m (evFL T) 44 args S = lendC (evFL T 44) S (lendAll S i44.pes args) := evCall0 fn44 rfl rfl args S
@[simp] theorem callz44 (args : List AV) (S : St) : evCallFz T (evFL T) 44 args S = lendZ (evFL T 44) S i44.res (lendAll S i44.pes args) := evCallFz0 fn44 rfl rfl args S
@[simp] theorem pes44 : i44.pes = [[0, 0, 0], [0, 0, 0]] := rfl
@[simp] theorem body44 : i44.body = c44 := rfl
@[simp] theorem kind44 : i44.kind = 0 := rfl
@[simp] theorem tree44 : i44.tree = false := rfl
@[simp] theorem ntmps44 : i44.ntmps = 20 := rfl
@[simp] theorem results44 : i44.results = [(ResultVar.tmp 4)] := rfl
@[simp] theorem res44 : i44.res = [[0]] := rfl
theorem e44 (a_a : Int) (a_b : Int) (a_kind : Int)  : evFL T 44 [.agg [.int .i64 a_a, .int .i64 a_b, .int .i64 a_kind], .agg [.int .i64 a_a, .int .i64 a_b, .int .i64 a_kind]] [] = some (.bool true, []) := by
  rw [evFL_at fn44 (by simp)]
  all_goals simp -implicitDefEqProofs [c44, r44_0, r44_1, r44_2, r44_3, r44_4, r44_5, r44_6, r44_7, -List.getElem?_map, -getElem?_pos, List.getElem?_cons_zero, map_get, -List.map_take, -List.map_drop, take_map, drop_map, upd_ne, frOf_set, frOf_get, frOf_getD]
-- laws.eqRelS
@[simp] theorem call15 {m : Nat} (args : List AV) (S : St) : evCall T m (evFL T) 15 args S = lendC (evFL T 15) S (lendAll S i15.pes args) := evCall0 fn15 rfl rfl args S
@[simp] theorem callz15 (args : List AV) (S : St) : evCallFz T (evFL T) 15 args S = lendZ (evFL T 15) S i15.res (lendAll S i15.pes args) := evCallFz0 fn15 rfl rfl args S
@[simp] theorem pes15 : i15.pes = [[3], [3]] := rfl
@[simp] theorem body15 : i15.body = c15 := rfl
@[simp] theorem kind15 : i15.kind = 0 := rfl
@[simp] theorem tree15 : i15.tree = false := rfl
@[simp] theorem ntmps15 : i15.ntmps = 27 := rfl
@[simp] theorem results15 : i15.results = [(ResultVar.tmp 4)] := rfl
@[simp] theorem res15 : i15.res = [[0]] := rfl
def I15_0 (a : (List Rel))  (i : Nat) (fr : Fr) (S : St) : Prop := ∃ f : Nat → AV, fr = frOf 27 f ∧ f 0 = .ts .imm 3 (a.map encRel) ∧ f 1 = .ts .imm 3 (a.map encRel) ∧ f 5 = .int .i64 i ∧ S = [] ∧ True
def R15_0 (a : (List Rel))  (r : Option (Ex × Fr × St)) : Prop := (∃ f : Nat → AV, r = some (.exit 0, frOf 27 f, []) ∧ True)
theorem L15_0 (a : (List Rel)) (ha0 : a.length ≤ 1048576)   : ∀ i fr S, i ≤ a.length → I15_0 a  i fr S → R15_0 a  (evCL T 0 (.loop l15_0) fr S) := by
  refine loopQ _ _ _ ?_ ?_
  · rintro i fr S hi ⟨f, rfl, t0, t1, t5, rfl, hf⟩
    have hwi : IntKind.i64.wrap ((i : Int) + 1) = (i : Int) + 1 := wrap64 (by omega) (by omega)
    all_goals simp -implicitDefEqProofs [r15_0, r15_1, r15_2, r15_3, r15_4, r15_5, r15_6, r15_7, r15_8, l15_0, ha0, call44, callz44, e44, -List.getElem?_map, -getElem?_pos, List.getElem?_cons_zero, map_get, -List.map_take, -List.map_drop, take_map, drop_map, upd_ne, frOf_set, frOf_get, frOf_getD, encRel, t0, t1, t5, hi, hwi]
    all_goals first | (refine .go _ _ ⟨_, rfl, (by first | rfl | assumption | simp [upd, *]), (by first | rfl | assumption | simp [upd, *]), (by first | rfl | assumption | simp [upd, *]), rfl, ?_⟩; first | trivial | assumption | simp [*]) | (refine .exit _ _ _ ⟨_, rfl, ?_⟩; first | trivial | assumption | simp [*])
  · rintro fr S ⟨f, rfl, t0, t1, t5, rfl, hf⟩
    simp -implicitDefEqProofs [r15_0, r15_1, r15_2, r15_3, r15_4, r15_5, r15_6, r15_7, r15_8, l15_0, ha0, call44, callz44, e44, -List.getElem?_map, -getElem?_pos, List.getElem?_cons_zero, map_get, -List.map_take, -List.map_drop, take_map, drop_map, upd_ne, frOf_set, frOf_get, frOf_getD, encRel, t0, t1, t5]
    refine .exit _ _ _ ⟨_, rfl, ?_⟩
    first | trivial | assumption | simp [*]
theorem e15 (a : (List Rel)) (ha0 : a.length ≤ 1048576) : evFL T 15 [.ts .imm 3 (a.map encRel), .ts .imm 3 (a.map encRel)] [] = some (.bool true, []) := by
  rw [evFL_at fn15 (by simp)]
  simp -implicitDefEqProofs [c15, r15_0, r15_1, r15_2, r15_3, r15_4, r15_5, r15_6, r15_7, r15_8, ha0, call44, callz44, e44, -List.getElem?_map, -getElem?_pos, List.getElem?_cons_zero, map_get, -List.map_take, -List.map_drop, take_map, drop_map, upd_ne, frOf_set, frOf_get, frOf_getD, encRel]
  generalize hr : evCL T 0 (.loop l15_0) _ _ = r
  have h : R15_0 a  r := by rw [← hr]; exact L15_0 a ha0  (0) _ _ (by omega) ⟨_, rfl, (by simp [upd, *]), (by simp [upd, *]), (by simp [upd, *]), rfl, by first | trivial | assumption | simp⟩
  clear hr
  obtain ⟨f0, rfl, hf0⟩ := h
  simp -implicitDefEqProofs [r15_0, r15_1, r15_2, r15_3, r15_4, r15_5, r15_6, r15_7, r15_8, ha0, call44, callz44, e44, -List.getElem?_map, -getElem?_pos, List.getElem?_cons_zero, map_get, -List.map_take, -List.map_drop, take_map, drop_map, upd_ne, frOf_set, frOf_get, frOf_getD, encRel, hf0] <;> try omega
-- spec.l1In
@[simp] theorem call39 {m : Nat} (args : List AV) (S : St) : evCall T m (evFL T) 39 args S = lendC (evFL T 39) S (lendAll S i39.pes args) := evCall0 fn39 rfl rfl args S
@[simp] theorem callz39 (args : List AV) (S : St) : evCallFz T (evFL T) 39 args S = lendZ (evFL T 39) S i39.res (lendAll S i39.pes args) := evCallFz0 fn39 rfl rfl args S
@[simp] theorem pes39 : i39.pes = [[0], [0], [0]] := rfl
@[simp] theorem body39 : i39.body = c39 := rfl
@[simp] theorem kind39 : i39.kind = 0 := rfl
@[simp] theorem tree39 : i39.tree = false := rfl
@[simp] theorem ntmps39 : i39.ntmps = 15 := rfl
@[simp] theorem results39 : i39.results = [(ResultVar.tmp 6)] := rfl
@[simp] theorem res39 : i39.res = [[0]] := rfl
theorem e39 (a : Int) (b : Int) (c : Int)  : evFL T 39 [.int .i64 a, .int .i64 b, .int .i64 c] [] = some (.bool (inR a b c), []) := by
  rw [evFL_at fn39 (by simp)]
  by_cases hc0 : b ≤ a
  all_goals simp -implicitDefEqProofs [c39, r39_0, r39_1, -List.getElem?_map, -getElem?_pos, List.getElem?_cons_zero, map_get, -List.map_take, -List.map_drop, take_map, drop_map, upd_ne, frOf_set, frOf_get, frOf_getD, inR, hc0]
def relEq (x y : Rel) : Bool := decide (x.a = y.a) && decide (x.b = y.b)
def relP (n : Int) (xs : List Rel) (i : Nat) : Bool := decide (0 ≤ (nth xs i).a ∧ (nth xs i).a < (nth xs i).b ∧ (nth xs i).b ≤ n ∧ 1 ≤ (nth xs i).kind ∧ (nth xs i).kind ≤ 3) && !(xs.take i).any (relEq (nth xs i))
def relsB (n : Int) (xs : List Rel) : Bool := inR n 1 5 && decide ((xs.length : Int) ≤ 15) && allB xs.length (relP n xs)
-- spec.GoodRels
@[simp] theorem call12 {m : Nat} (args : List AV) (S : St) : evCall T m (evFL T) 12 args S = lendC (evFL T 12) S (lendAll S i12.pes args) := evCall0 fn12 rfl rfl args S
@[simp] theorem callz12 (args : List AV) (S : St) : evCallFz T (evFL T) 12 args S = lendZ (evFL T 12) S i12.res (lendAll S i12.pes args) := evCallFz0 fn12 rfl rfl args S
@[simp] theorem pes12 : i12.pes = [[0], [3]] := rfl
@[simp] theorem body12 : i12.body = c12 := rfl
@[simp] theorem kind12 : i12.kind = 0 := rfl
@[simp] theorem tree12 : i12.tree = false := rfl
@[simp] theorem ntmps12 : i12.ntmps = 68 := rfl
@[simp] theorem results12 : i12.results = [(ResultVar.tmp 4)] := rfl
@[simp] theorem res12 : i12.res = [[0]] := rfl
def I12_0 (n : Int) (l : (List Rel)) (G0 : St) (i0 : Nat) (i : Nat) (fr : Fr) (S : St) : Prop := ∃ f : Nat → AV, ∃ G : St, fr = frOf 68 f ∧ f 0 = .int .i64 n ∧ f 1 = .ts .imm 3 (l.map encRel) ∧ f 6 = .ptr G0.length 0 0 ∧ f 17 = .ts .imm 3 (l.map encRel) ∧ f 18 = .int .i64 l.length ∧ f 19 = .int .i64 i0 ∧ f 48 = .ts .imm 3 ((l.take i0).map encRel) ∧ f 49 = .int .i64 i0 ∧ f 50 = .int .i64 i ∧ S = G0 ++ some ⟨.box, 3, [[.int .i64 (nth l i0).a, .int .i64 (nth l i0).b, .int .i64 (nth l i0).kind]]⟩ :: G ∧ ∀ j, j < i → relEq (nth l i0) (nth (l.take i0) j) = false
def R12_0 (n : Int) (l : (List Rel)) (G0 : St) (i0 : Nat) (r : Option (Ex × Fr × St)) : Prop := (∃ f : Nat → AV, ∃ G : St, r = some (.ret, frOf 68 f, G0 ++ some ⟨.box, 3, [[.int .i64 (nth l i0).a, .int .i64 (nth l i0).b, .int .i64 (nth l i0).kind]]⟩ :: G) ∧ f 4 = .bool false ∧ (l.take i0).any (relEq (nth l i0)) = true) ∨ (∃ f : Nat → AV, ∃ G : St, r = some (.exit 2, frOf 68 f, G0 ++ some ⟨.box, 3, [[.int .i64 (nth l i0).a, .int .i64 (nth l i0).b, .int .i64 (nth l i0).kind]]⟩ :: G) ∧ f 0 = .int .i64 n ∧ f 1 = .ts .imm 3 (l.map encRel) ∧ f 17 = .ts .imm 3 (l.map encRel) ∧ f 18 = .int .i64 l.length ∧ f 19 = .int .i64 i0 ∧ (l.take i0).any (relEq (nth l i0)) = false)
theorem L12_0 (n : Int) (l : (List Rel)) (h0 : l.length ≤ 1048576) (G0 : St) (i0 : Nat) (hi0 : i0 < l.length) : ∀ i fr S, i ≤ i0 → I12_0 n l G0 i0 i fr S → R12_0 n l G0 i0 (evCL T 0 (.loop l12_0) fr S) := by
  refine loopQ _ _ _ ?_ ?_
  · rintro i fr S hi ⟨f, G, rfl, t0, t1, t6, t17, t18, t19, t48, t49, t50, rfl, hf⟩
    have hwi : IntKind.i64.wrap ((i : Int) + 1) = (i : Int) + 1 := wrap64 (by omega) (by omega)
    have hmin : min i0 l.length = i0 := by omega
    have hlen : (l.take i0).length = i0 := by simp [hmin]
    have hi9 : i < (l.take i0).length := by omega
    by_cases ht1 : (nth (l.take i0) i).a = (nth l i0).a
    · by_cases ht2 : (nth (l.take i0) i).b = (nth l i0).b
      · simp -implicitDefEqProofs [r12_0, r12_1, r12_2, r12_3, r12_4, r12_5, r12_6, r12_7, r12_8, r12_9, r12_10, r12_11, r12_12, r12_13, r12_14, r12_15, l12_0, h0, call39, callz39, e39, -List.getElem?_map, -getElem?_pos, List.getElem?_cons_zero, map_get, -List.map_take, -List.map_drop, take_map, drop_map, upd_ne, frOf_set, frOf_get, frOf_getD, encRel, hi0, t0, t1, t6, t17, t18, t19, t48, t49, t50, hi, hwi, hmin, ht1, ht2]
        refine .ret _ _ (Or.inl ⟨_, _, rfl, (by first | rfl | assumption | simp [upd, *]), ?_⟩); exact any_hit hi9 (by simp [relEq, ht1, ht2])
      · simp -implicitDefEqProofs [r12_0, r12_1, r12_2, r12_3, r12_4, r12_5, r12_6, r12_7, r12_8, r12_9, r12_10, r12_11, r12_12, r12_13, r12_14, r12_15, l12_0, h0, call39, callz39, e39, -List.getElem?_map, -getElem?_pos, List.getElem?_cons_zero, map_get, -List.map_take, -List.map_drop, take_map, drop_map, upd_ne, frOf_set, frOf_get, frOf_getD, encRel, hi0, t0, t1, t6, t17, t18, t19, t48, t49, t50, hi, hwi, hmin, ht1, ht2]
        refine .go _ _ ⟨_, _, rfl, (by first | rfl | assumption | simp [upd, *]), (by first | rfl | assumption | simp [upd, *]), (by first | rfl | assumption | simp [upd, *]), (by first | rfl | assumption | simp [upd, *]), (by first | rfl | assumption | simp [upd, *]), (by first | rfl | assumption | simp [upd, *]), (by first | rfl | assumption | simp [upd, *]), (by first | rfl | assumption | simp [upd, *]), (by first | rfl | assumption | simp [upd, *]), rfl, ?_⟩; exact none_succ hf (by simp [relEq]; omega)
    · simp -implicitDefEqProofs [r12_0, r12_1, r12_2, r12_3, r12_4, r12_5, r12_6, r12_7, r12_8, r12_9, r12_10, r12_11, r12_12, r12_13, r12_14, r12_15, l12_0, h0, call39, callz39, e39, -List.getElem?_map, -getElem?_pos, List.getElem?_cons_zero, map_get, -List.map_take, -List.map_drop, take_map, drop_map, upd_ne, frOf_set, frOf_get, frOf_getD, encRel, hi0, t0, t1, t6, t17, t18, t19, t48, t49, t50, hi, hwi, hmin, ht1]
      refine .go _ _ ⟨_, _, rfl, (by first | rfl | assumption | simp [upd, *]), (by first | rfl | assumption | simp [upd, *]), (by first | rfl | assumption | simp [upd, *]), (by first | rfl | assumption | simp [upd, *]), (by first | rfl | assumption | simp [upd, *]), (by first | rfl | assumption | simp [upd, *]), (by first | rfl | assumption | simp [upd, *]), (by first | rfl | assumption | simp [upd, *]), (by first | rfl | assumption | simp [upd, *]), rfl, ?_⟩; exact none_succ hf (by simp [relEq]; omega)
  · rintro fr S ⟨f, G, rfl, t0, t1, t6, t17, t18, t19, t48, t49, t50, rfl, hf⟩
    simp -implicitDefEqProofs [r12_0, r12_1, r12_2, r12_3, r12_4, r12_5, r12_6, r12_7, r12_8, r12_9, r12_10, r12_11, r12_12, r12_13, r12_14, r12_15, l12_0, h0, call39, callz39, e39, -List.getElem?_map, -getElem?_pos, List.getElem?_cons_zero, map_get, -List.map_take, -List.map_drop, take_map, drop_map, upd_ne, frOf_set, frOf_get, frOf_getD, encRel, hi0, t0, t1, t6, t17, t18, t19, t48, t49, t50]
    refine .exit _ _ _ (Or.inr ⟨_, _, rfl, (by first | rfl | assumption | simp [upd, *]), (by first | rfl | assumption | simp [upd, *]), (by first | rfl | assumption | simp [upd, *]), (by first | rfl | assumption | simp [upd, *]), (by first | rfl | assumption | simp [upd, *]), ?_⟩)
    exact any_no (fun j hj => hf j (by simp at hj; omega))
def I12_1 (n : Int) (l : (List Rel))  (i : Nat) (fr : Fr) (S : St) : Prop := ∃ f : Nat → AV, ∃ G : St, fr = frOf 68 f ∧ f 0 = .int .i64 n ∧ f 1 = .ts .imm 3 (l.map encRel) ∧ f 17 = .ts .imm 3 (l.map encRel) ∧ f 18 = .int .i64 l.length ∧ f 19 = .int .i64 i ∧ S = G ∧ allB i (relP n l) = true
def R12_1 (n : Int) (l : (List Rel))  (r : Option (Ex × Fr × St)) : Prop := (∃ f : Nat → AV, ∃ G : St, r = some (.ret, frOf 68 f, G) ∧ f 4 = .bool false ∧ allB l.length (relP n l) = false) ∨ (∃ f : Nat → AV, ∃ G : St, r = some (.exit 0, frOf 68 f, G) ∧ allB l.length (relP n l) = true)
theorem L12_1 (n : Int) (l : (List Rel)) (h0 : l.length ≤ 1048576)   : ∀ i fr S, i ≤ l.length → I12_1 n l  i fr S → R12_1 n l  (evCL T 0 (.loop l12_1) fr S) := by
  refine loopQ _ _ _ ?_ ?_
  · rintro i fr S hi ⟨f, G, rfl, t0, t1, t17, t18, t19, rfl, hf⟩
    have hwi : IntKind.i64.wrap ((i : Int) + 1) = (i : Int) + 1 := wrap64 (by omega) (by omega)
    have hile : i ≤ l.length := Nat.le_of_lt hi
    by_cases ht1 : (nth l i).a < 0
    · simp -implicitDefEqProofs [r12_0, r12_1, r12_2, r12_3, r12_4, r12_5, r12_6, r12_7, r12_8, r12_9, r12_10, r12_11, r12_12, r12_13, r12_14, r12_15, l12_1, h0, call39, callz39, e39, -List.getElem?_map, -getElem?_pos, List.getElem?_cons_zero, map_get, -List.map_take, -List.map_drop, take_map, drop_map, upd_ne, frOf_set, frOf_get, frOf_getD, encRel, t0, t1, t17, t18, t19, hi, hwi, ht1]
      refine .ret _ _ (Or.inl ⟨_, _, rfl, (by first | rfl | assumption | simp [upd, *]), ?_⟩); exact allB_no hi (by have h9 : ¬ (0 ≤ (nth l i).a ∧ (nth l i).a < (nth l i).b ∧ (nth l i).b ≤ n ∧ 1 ≤ (nth l i).kind ∧ (nth l i).kind ≤ 3) := (by omega); simp only [relP, h9, decide_false, Bool.false_and])
    · by_cases ht2 : (nth l i).b ≤ (nth l i).a
      · simp -implicitDefEqProofs [r12_0, r12_1, r12_2, r12_3, r12_4, r12_5, r12_6, r12_7, r12_8, r12_9, r12_10, r12_11, r12_12, r12_13, r12_14, r12_15, l12_1, h0, call39, callz39, e39, -List.getElem?_map, -getElem?_pos, List.getElem?_cons_zero, map_get, -List.map_take, -List.map_drop, take_map, drop_map, upd_ne, frOf_set, frOf_get, frOf_getD, encRel, t0, t1, t17, t18, t19, hi, hwi, ht1, ht2]
        refine .ret _ _ (Or.inl ⟨_, _, rfl, (by first | rfl | assumption | simp [upd, *]), ?_⟩); exact allB_no hi (by have h9 : ¬ (0 ≤ (nth l i).a ∧ (nth l i).a < (nth l i).b ∧ (nth l i).b ≤ n ∧ 1 ≤ (nth l i).kind ∧ (nth l i).kind ≤ 3) := (by omega); simp only [relP, h9, decide_false, Bool.false_and])
      · by_cases ht3 : n < (nth l i).b
        · simp -implicitDefEqProofs [r12_0, r12_1, r12_2, r12_3, r12_4, r12_5, r12_6, r12_7, r12_8, r12_9, r12_10, r12_11, r12_12, r12_13, r12_14, r12_15, l12_1, h0, call39, callz39, e39, -List.getElem?_map, -getElem?_pos, List.getElem?_cons_zero, map_get, -List.map_take, -List.map_drop, take_map, drop_map, upd_ne, frOf_set, frOf_get, frOf_getD, encRel, t0, t1, t17, t18, t19, hi, hwi, ht1, ht2, ht3]
          refine .ret _ _ (Or.inl ⟨_, _, rfl, (by first | rfl | assumption | simp [upd, *]), ?_⟩); exact allB_no hi (by have h9 : ¬ (0 ≤ (nth l i).a ∧ (nth l i).a < (nth l i).b ∧ (nth l i).b ≤ n ∧ 1 ≤ (nth l i).kind ∧ (nth l i).kind ≤ 3) := (by omega); simp only [relP, h9, decide_false, Bool.false_and])
        · by_cases ht4 : inR (nth l i).kind 1 3 = true
          · simp -implicitDefEqProofs [r12_0, r12_1, r12_2, r12_3, r12_4, r12_5, r12_6, r12_7, r12_8, r12_9, r12_10, r12_11, r12_12, r12_13, r12_14, r12_15, l12_1, h0, call39, callz39, e39, -List.getElem?_map, -getElem?_pos, List.getElem?_cons_zero, map_get, -List.map_take, -List.map_drop, take_map, drop_map, upd_ne, frOf_set, frOf_get, frOf_getD, encRel, t0, t1, t17, t18, t19, hi, hwi, hile, ht1, ht2, ht3, ht4]
            generalize hr : evCL T 0 (.loop l12_0) _ _ = r
            have h : R12_0 n l S i r := by rw [← hr]; exact L12_0 n l h0 S i hi (0) _ _ (by omega) ⟨_, _, rfl, (by simp [upd, *]), (by simp [upd, *]), (by simp [upd, *]), (by simp [upd, *]), (by simp [upd, *]), (by simp [upd, *]), (by simp [upd, *]), (by simp [upd, *]), (by simp [upd, *]), rfl, by simp⟩
            clear hr
            rcases h with h | h
            · obtain ⟨f0, G, rfl, u0_4, hf0⟩ := h
              simp -implicitDefEqProofs [r12_0, r12_1, r12_2, r12_3, r12_4, r12_5, r12_6, r12_7, r12_8, r12_9, r12_10, r12_11, r12_12, r12_13, r12_14, r12_15, l12_1, h0, call39, callz39, e39, -List.getElem?_map, -getElem?_pos, List.getElem?_cons_zero, map_get, -List.map_take, -List.map_drop, take_map, drop_map, upd_ne, frOf_set, frOf_get, frOf_getD, encRel, t0, t1, t17, t18, t19, hi, hwi, u0_4]
              refine .ret _ _ (Or.inl ⟨_, _, rfl, (by first | rfl | assumption | simp [upd, *]), ?_⟩); exact allB_no hi (by simp [relP, hf0])
            obtain ⟨f0, G, rfl, u0_0, u0_1, u0_17, u0_18, u0_19, hf0⟩ := h
            simp -implicitDefEqProofs [r12_0, r12_1, r12_2, r12_3, r12_4, r12_5, r12_6, r12_7, r12_8, r12_9, r12_10, r12_11, r12_12, r12_13, r12_14, r12_15, l12_1, h0, call39, callz39, e39, -List.getElem?_map, -getElem?_pos, List.getElem?_cons_zero, map_get, -List.map_take, -List.map_drop, take_map, drop_map, upd_ne, frOf_set, frOf_get, frOf_getD, encRel, t0, t1, t17, t18, t19, hi, hwi, u0_0, u0_1, u0_17, u0_18, u0_19]
            refine .go _ _ ⟨_, _, rfl, (by first | rfl | assumption | simp [upd, *]), (by first | rfl | assumption | simp [upd, *]), (by first | rfl | assumption | simp [upd, *]), (by first | rfl | assumption | simp [upd, *]), (by first | rfl | assumption | simp [upd, *]), rfl, ?_⟩; rw [allB_succ, hf, Bool.true_and]; simp only [inR, Bool.and_eq_true, decide_eq_true_eq] at ht4; simp only [relP, hf0, Bool.not_false, Bool.and_true, decide_eq_true_eq]; exact ⟨by omega, by omega, by omega, ht4.1, ht4.2⟩
          · simp -implicitDefEqProofs [r12_0, r12_1, r12_2, r12_3, r12_4, r12_5, r12_6, r12_7, r12_8, r12_9, r12_10, r12_11, r12_12, r12_13, r12_14, r12_15, l12_1, h0, call39, callz39, e39, -List.getElem?_map, -getElem?_pos, List.getElem?_cons_zero, map_get, -List.map_take, -List.map_drop, take_map, drop_map, upd_ne, frOf_set, frOf_get, frOf_getD, encRel, t0, t1, t17, t18, t19, hi, hwi, ht1, ht2, ht3, ht4]
            refine .ret _ _ (Or.inl ⟨_, _, rfl, (by first | rfl | assumption | simp [upd, *]), ?_⟩); exact allB_no hi (by have h9 : ¬ (0 ≤ (nth l i).a ∧ (nth l i).a < (nth l i).b ∧ (nth l i).b ≤ n ∧ 1 ≤ (nth l i).kind ∧ (nth l i).kind ≤ 3) := (by intro h8; simp [inR] at ht4; omega); simp only [relP, h9, decide_false, Bool.false_and])
  · rintro fr S ⟨f, G, rfl, t0, t1, t17, t18, t19, rfl, hf⟩
    simp -implicitDefEqProofs [r12_0, r12_1, r12_2, r12_3, r12_4, r12_5, r12_6, r12_7, r12_8, r12_9, r12_10, r12_11, r12_12, r12_13, r12_14, r12_15, l12_1, h0, call39, callz39, e39, -List.getElem?_map, -getElem?_pos, List.getElem?_cons_zero, map_get, -List.map_take, -List.map_drop, take_map, drop_map, upd_ne, frOf_set, frOf_get, frOf_getD, encRel, t0, t1, t17, t18, t19]
    refine .exit _ _ _ (Or.inr ⟨_, _, rfl, ?_⟩)
    first | trivial | assumption | simp [*]
theorem e12 (n : Int) (l : (List Rel)) (h0 : l.length ≤ 1048576) : evFL T 12 [.int .i64 n, .ts .imm 3 (l.map encRel)] [] = some (.bool (relsB n l), []) := by
  rw [evFL_at fn12 (by simp)]
  cases hn : inR n 1 5
  · simp -implicitDefEqProofs [c12, r12_0, r12_1, r12_2, r12_3, r12_4, r12_5, r12_6, r12_7, r12_8, r12_9, r12_10, r12_11, r12_12, r12_13, r12_14, r12_15, h0, call39, callz39, e39, -List.getElem?_map, -getElem?_pos, List.getElem?_cons_zero, map_get, -List.map_take, -List.map_drop, take_map, drop_map, upd_ne, frOf_set, frOf_get, frOf_getD, encRel, hn, relsB]
  by_cases hm : (15 : Int) < (l.length : Int)
  · have hm2 : ¬ ((l.length : Int) ≤ 15) := by omega
    simp -implicitDefEqProofs [c12, r12_0, r12_1, r12_2, r12_3, r12_4, r12_5, r12_6, r12_7, r12_8, r12_9, r12_10, r12_11, r12_12, r12_13, r12_14, r12_15, h0, call39, callz39, e39, -List.getElem?_map, -getElem?_pos, List.getElem?_cons_zero, map_get, -List.map_take, -List.map_drop, take_map, drop_map, upd_ne, frOf_set, frOf_get, frOf_getD, encRel, hn, hm, hm2, relsB]
  have hm2 : ((l.length : Int) ≤ 15) := by omega
  simp -implicitDefEqProofs [c12, r12_0, r12_1, r12_2, r12_3, r12_4, r12_5, r12_6, r12_7, r12_8, r12_9, r12_10, r12_11, r12_12, r12_13, r12_14, r12_15, h0, call39, callz39, e39, -List.getElem?_map, -getElem?_pos, List.getElem?_cons_zero, map_get, -List.map_take, -List.map_drop, take_map, drop_map, upd_ne, frOf_set, frOf_get, frOf_getD, encRel, hn, hm, hm2]
  generalize hr : evCL T 0 (.loop l12_1) _ _ = r
  have h : R12_1 n l  r := by rw [← hr]; exact L12_1 n l h0  (0) _ _ (by omega) ⟨_, _, rfl, (by simp [upd, *]), (by simp [upd, *]), (by simp [upd, *]), (by simp [upd, *]), (by simp [upd, *]), rfl, by first | trivial | assumption | simp⟩
  clear hr
  rcases h with h | h
  · obtain ⟨f1, G, rfl, u1_4, hf1⟩ := h
    simp -implicitDefEqProofs [r12_0, r12_1, r12_2, r12_3, r12_4, r12_5, r12_6, r12_7, r12_8, r12_9, r12_10, r12_11, r12_12, r12_13, r12_14, r12_15, h0, call39, callz39, e39, -List.getElem?_map, -getElem?_pos, List.getElem?_cons_zero, map_get, -List.map_take, -List.map_drop, take_map, drop_map, upd_ne, frOf_set, frOf_get, frOf_getD, encRel, u1_4, hf1, relsB]
  obtain ⟨f1, G, rfl, hf1⟩ := h
  simp -implicitDefEqProofs [r12_0, r12_1, r12_2, r12_3, r12_4, r12_5, r12_6, r12_7, r12_8, r12_9, r12_10, r12_11, r12_12, r12_13, r12_14, r12_15, h0, call39, callz39, e39, -List.getElem?_map, -getElem?_pos, List.getElem?_cons_zero, map_get, -List.map_take, -List.map_drop, take_map, drop_map, upd_ne, frOf_set, frOf_get, frOf_getD, encRel, hf1, relsB, hn, hm2]
def kindOf (a b : Int) : List Rel → Int
  | [] => 0
  | x :: r => if x.a = a ∧ x.b = b then x.kind else if x.a = b ∧ x.b = a then IntKind.i64.wrap (4 - x.kind) else kindOf a b r
def kindTo (n : Int) (l : List Rel) (a b : Int) : Int × Bool := if relsB n l = true ∧ kindOf a b l ≠ 0 then (kindOf a b l, true) else (0, false)
-- spec.l11Kind
@[simp] theorem call45 {m : Nat} (args : List AV) (S : St) : evCall T m (evFL T) 45 args S = lendC (evFL T 45) S (lendAll S i45.pes args) := evCall0 fn45 rfl rfl args S
@[simp] theorem callz45 (args : List AV) (S : St) : evCallFz T (evFL T) 45 args S = lendZ (evFL T 45) S i45.res (lendAll S i45.pes args) := evCallFz0 fn45 rfl rfl args S
@[simp] theorem pes45 : i45.pes = [[3], [0], [0]] := rfl
@[simp] theorem body45 : i45.body = c45 := rfl
@[simp] theorem kind45 : i45.kind = 0 := rfl
@[simp] theorem tree45 : i45.tree = false := rfl
@[simp] theorem ntmps45 : i45.ntmps = 41 := rfl
@[simp] theorem results45 : i45.results = [(ResultVar.tmp 6)] := rfl
@[simp] theorem res45 : i45.res = [[0]] := rfl
def I45_0 (l : (List Rel)) (a : Int) (b : Int)  (i : Nat) (fr : Fr) (S : St) : Prop := ∃ f : Nat → AV, ∃ G : St, fr = frOf 41 f ∧ f 1 = .int .i64 a ∧ f 2 = .int .i64 b ∧ f 9 = .ts .imm 3 (l.map encRel) ∧ f 10 = .int .i64 l.length ∧ f 11 = .int .i64 i ∧ S = G ∧ kindOf a b (l.drop i) = kindOf a b l
def R45_0 (l : (List Rel)) (a : Int) (b : Int)  (r : Option (Ex × Fr × St)) : Prop := (∃ f : Nat → AV, ∃ G : St, ∃ j : Int, r = some (.ret, frOf 41 f, G) ∧ f 6 = .int .i64 j ∧ kindOf a b l = j) ∨ (∃ f : Nat → AV, ∃ G : St, r = some (.exit 0, frOf 41 f, G) ∧ kindOf a b l = 0)
theorem L45_0 (l : (List Rel)) (a : Int) (b : Int) (h0 : l.length ≤ 1048576)   : ∀ i fr S, i ≤ l.length → I45_0 l a b  i fr S → R45_0 l a b  (evCL T 0 (.loop l45_0) fr S) := by
  refine loopQ _ _ _ ?_ ?_
  · rintro i fr S hi ⟨f, G, rfl, t1, t2, t9, t10, t11, rfl, hf⟩
    have hwi : IntKind.i64.wrap ((i : Int) + 1) = (i : Int) + 1 := wrap64 (by omega) (by omega)
    rw [drop_nth hi] at hf
    rcases hx : nth l i with ⟨xa, xb, xk⟩
    by_cases ht1 : a = b
    · subst ht1
      by_cases ht2 : xa = a
      · by_cases ht3 : xb = a
        · simp -implicitDefEqProofs [r45_0, r45_1, r45_2, r45_3, r45_4, r45_5, r45_6, r45_7, r45_8, r45_9, l45_0, h0, -List.getElem?_map, -getElem?_pos, List.getElem?_cons_zero, map_get, -List.map_take, -List.map_drop, take_map, drop_map, upd_ne, frOf_set, frOf_get, frOf_getD, encRel, t1, t2, t9, t10, t11, hi, hwi, hx, ht2, ht3]
          refine .ret _ _ (Or.inl ⟨_, _, _, rfl, (by first | rfl | assumption | simp [upd, *]), ?_⟩); simp [kindOf, hx, ht2, ht3] at hf; exact hf.symm
        · simp -implicitDefEqProofs [r45_0, r45_1, r45_2, r45_3, r45_4, r45_5, r45_6, r45_7, r45_8, r45_9, l45_0, h0, -List.getElem?_map, -getElem?_pos, List.getElem?_cons_zero, map_get, -List.map_take, -List.map_drop, take_map, drop_map, upd_ne, frOf_set, frOf_get, frOf_getD, encRel, t1, t2, t9, t10, t11, hi, hwi, hx, ht2, ht3]
          refine .go _ _ ⟨_, _, rfl, (by first | rfl | assumption | simp [upd, *]), (by first | rfl | assumption | simp [upd, *]), (by first | rfl | assumption | simp [upd, *]), (by first | rfl | assumption | simp [upd, *]), (by first | rfl | assumption | simp [upd, *]), rfl, ?_⟩; simp [kindOf, hx, ht2, ht3] at hf; exact hf
      · simp -implicitDefEqProofs [r45_0, r45_1, r45_2, r45_3, r45_4, r45_5, r45_6, r45_7, r45_8, r45_9, l45_0, h0, -List.getElem?_map, -getElem?_pos, List.getElem?_cons_zero, map_get, -List.map_take, -List.map_drop, take_map, drop_map, upd_ne, frOf_set, frOf_get, frOf_getD, encRel, t1, t2, t9, t10, t11, hi, hwi, hx, ht2]
        refine .go _ _ ⟨_, _, rfl, (by first | rfl | assumption | simp [upd, *]), (by first | rfl | assumption | simp [upd, *]), (by first | rfl | assumption | simp [upd, *]), (by first | rfl | assumption | simp [upd, *]), (by first | rfl | assumption | simp [upd, *]), rfl, ?_⟩; simp [kindOf, hx, ht2] at hf; exact hf
    · by_cases ht4 : xa = a
      · subst ht4
        by_cases ht5 : xb = b
        · subst ht5
          simp -implicitDefEqProofs [r45_0, r45_1, r45_2, r45_3, r45_4, r45_5, r45_6, r45_7, r45_8, r45_9, l45_0, h0, -List.getElem?_map, -getElem?_pos, List.getElem?_cons_zero, map_get, -List.map_take, -List.map_drop, take_map, drop_map, upd_ne, frOf_set, frOf_get, frOf_getD, encRel, t1, t2, t9, t10, t11, hi, hwi, hx, ht1]
          refine .ret _ _ (Or.inl ⟨_, _, _, rfl, (by first | rfl | assumption | simp [upd, *]), ?_⟩); simp [kindOf, hx, ht1] at hf; exact hf.symm
        · simp -implicitDefEqProofs [r45_0, r45_1, r45_2, r45_3, r45_4, r45_5, r45_6, r45_7, r45_8, r45_9, l45_0, h0, -List.getElem?_map, -getElem?_pos, List.getElem?_cons_zero, map_get, -List.map_take, -List.map_drop, take_map, drop_map, upd_ne, frOf_set, frOf_get, frOf_getD, encRel, t1, t2, t9, t10, t11, hi, hwi, hx, ht1, ht5]
          refine .go _ _ ⟨_, _, rfl, (by first | rfl | assumption | simp [upd, *]), (by first | rfl | assumption | simp [upd, *]), (by first | rfl | assumption | simp [upd, *]), (by first | rfl | assumption | simp [upd, *]), (by first | rfl | assumption | simp [upd, *]), rfl, ?_⟩; simp [kindOf, hx, ht1, ht5] at hf; exact hf
      · by_cases ht6 : xa = b
        · subst ht6
          by_cases ht7 : xb = a
          · simp -implicitDefEqProofs [r45_0, r45_1, r45_2, r45_3, r45_4, r45_5, r45_6, r45_7, r45_8, r45_9, l45_0, h0, -List.getElem?_map, -getElem?_pos, List.getElem?_cons_zero, map_get, -List.map_take, -List.map_drop, take_map, drop_map, upd_ne, frOf_set, frOf_get, frOf_getD, encRel, t1, t2, t9, t10, t11, hi, hwi, hx, ht1, ht4, ht7]
            refine .ret _ _ (Or.inl ⟨_, _, _, rfl, (by first | rfl | assumption | simp [upd, *]), ?_⟩); simp [kindOf, hx, ht1, ht4, ht7] at hf; exact hf.symm
          · simp -implicitDefEqProofs [r45_0, r45_1, r45_2, r45_3, r45_4, r45_5, r45_6, r45_7, r45_8, r45_9, l45_0, h0, -List.getElem?_map, -getElem?_pos, List.getElem?_cons_zero, map_get, -List.map_take, -List.map_drop, take_map, drop_map, upd_ne, frOf_set, frOf_get, frOf_getD, encRel, t1, t2, t9, t10, t11, hi, hwi, hx, ht1, ht4, ht7]
            refine .go _ _ ⟨_, _, rfl, (by first | rfl | assumption | simp [upd, *]), (by first | rfl | assumption | simp [upd, *]), (by first | rfl | assumption | simp [upd, *]), (by first | rfl | assumption | simp [upd, *]), (by first | rfl | assumption | simp [upd, *]), rfl, ?_⟩; simp [kindOf, hx, ht1, ht4, ht7] at hf; exact hf
        · simp -implicitDefEqProofs [r45_0, r45_1, r45_2, r45_3, r45_4, r45_5, r45_6, r45_7, r45_8, r45_9, l45_0, h0, -List.getElem?_map, -getElem?_pos, List.getElem?_cons_zero, map_get, -List.map_take, -List.map_drop, take_map, drop_map, upd_ne, frOf_set, frOf_get, frOf_getD, encRel, t1, t2, t9, t10, t11, hi, hwi, hx, ht1, ht4, ht6]
          refine .go _ _ ⟨_, _, rfl, (by first | rfl | assumption | simp [upd, *]), (by first | rfl | assumption | simp [upd, *]), (by first | rfl | assumption | simp [upd, *]), (by first | rfl | assumption | simp [upd, *]), (by first | rfl | assumption | simp [upd, *]), rfl, ?_⟩; simp [kindOf, hx, ht1, ht4, ht6] at hf; exact hf
  · rintro fr S ⟨f, G, rfl, t1, t2, t9, t10, t11, rfl, hf⟩
    simp -implicitDefEqProofs [r45_0, r45_1, r45_2, r45_3, r45_4, r45_5, r45_6, r45_7, r45_8, r45_9, l45_0, h0, -List.getElem?_map, -getElem?_pos, List.getElem?_cons_zero, map_get, -List.map_take, -List.map_drop, take_map, drop_map, upd_ne, frOf_set, frOf_get, frOf_getD, encRel, t1, t2, t9, t10, t11]
    refine .exit _ _ _ (Or.inr ⟨_, _, rfl, ?_⟩)
    simpa [kindOf] using hf.symm
theorem e45 (l : (List Rel)) (a : Int) (b : Int) (h0 : l.length ≤ 1048576) : evFL T 45 [.ts .imm 3 (l.map encRel), .int .i64 a, .int .i64 b] [] = some (.int .i64 (kindOf a b l), []) := by
  rw [evFL_at fn45 (by simp)]
  simp -implicitDefEqProofs [c45, r45_0, r45_1, r45_2, r45_3, r45_4, r45_5, r45_6, r45_7, r45_8, r45_9, h0, -List.getElem?_map, -getElem?_pos, List.getElem?_cons_zero, map_get, -List.map_take, -List.map_drop, take_map, drop_map, upd_ne, frOf_set, frOf_get, frOf_getD, encRel]
  generalize hr : evCL T 0 (.loop l45_0) _ _ = r
  have h : R45_0 l a b  r := by rw [← hr]; exact L45_0 l a b h0  (0) _ _ (by omega) ⟨_, _, rfl, (by simp [upd, *]), (by simp [upd, *]), (by simp [upd, *]), (by simp [upd, *]), (by simp [upd, *]), rfl, by simp⟩
  clear hr
  rcases h with h | h
  · obtain ⟨f0, G, j, rfl, u0_6, hf0⟩ := h
    simp -implicitDefEqProofs [r45_0, r45_1, r45_2, r45_3, r45_4, r45_5, r45_6, r45_7, r45_8, r45_9, h0, -List.getElem?_map, -getElem?_pos, List.getElem?_cons_zero, map_get, -List.map_take, -List.map_drop, take_map, drop_map, upd_ne, frOf_set, frOf_get, frOf_getD, encRel, u0_6, hf0] <;> try omega
  obtain ⟨f0, G, rfl, hf0⟩ := h
  simp -implicitDefEqProofs [r45_0, r45_1, r45_2, r45_3, r45_4, r45_5, r45_6, r45_7, r45_8, r45_9, h0, -List.getElem?_map, -getElem?_pos, List.getElem?_cons_zero, map_get, -List.map_take, -List.map_drop, take_map, drop_map, upd_ne, frOf_set, frOf_get, frOf_getD, encRel, hf0] <;> try omega
def hasI (l : List Int) (n : Int) : Bool := l.any fun x => decide (x = n)
theorem hasI_comm (l : List Int) (n : Int) : (l.any fun x => decide (n = x)) = hasI l n := by
  unfold hasI; congr 1; funext x; rw [Bool.eq_iff_iff]; simp [eq_comm]
theorem hasI_iff {l : List Int} {n : Int} : hasI l n = true ↔ n ∈ l := by simp [hasI]
-- spec.l1Has
@[simp] theorem call47 {m : Nat} (args : List AV) (S : St) : evCall T m (evFL T) 47 args S = lendC (evFL T 47) S (lendAll S i47.pes args) := evCall0 fn47 rfl rfl args S
@[simp] theorem callz47 (args : List AV) (S : St) : evCallFz T (evFL T) 47 args S = lendZ (evFL T 47) S i47.res (lendAll S i47.pes args) := evCallFz0 fn47 rfl rfl args S
@[simp] theorem pes47 : i47.pes = [[1], [0]] := rfl
@[simp] theorem body47 : i47.body = c47 := rfl
@[simp] theorem kind47 : i47.kind = 0 := rfl
@[simp] theorem tree47 : i47.tree = false := rfl
@[simp] theorem ntmps47 : i47.ntmps = 17 := rfl
@[simp] theorem results47 : i47.results = [(ResultVar.tmp 4)] := rfl
@[simp] theorem res47 : i47.res = [[0]] := rfl
def I47_0 (a : (List Int)) (v : Int)  (i : Nat) (fr : Fr) (S : St) : Prop := ∃ f : Nat → AV, fr = frOf 17 f ∧ f 1 = .int .i64 v ∧ f 7 = .ts .imm 1 (a.map encInt) ∧ f 8 = .int .i64 a.length ∧ f 9 = .int .i64 i ∧ S = [] ∧ ∀ j, j < i → decide (nth a j = v) = false
def R47_0 (a : (List Int)) (v : Int)  (r : Option (Ex × Fr × St)) : Prop := (∃ f : Nat → AV, r = some (.ret, frOf 17 f, []) ∧ f 4 = .bool true ∧ hasI a v = true) ∨ (∃ f : Nat → AV, r = some (.exit 0, frOf 17 f, []) ∧ hasI a v = false)
theorem L47_0 (a : (List Int)) (v : Int) (h0 : a.length ≤ 1048576)   : ∀ i fr S, i ≤ a.length → I47_0 a v  i fr S → R47_0 a v  (evCL T 0 (.loop l47_0) fr S) := by
  refine loopQ _ _ _ ?_ ?_
  · rintro i fr S hi ⟨f, rfl, t1, t7, t8, t9, rfl, hf⟩
    have hwi : IntKind.i64.wrap ((i : Int) + 1) = (i : Int) + 1 := wrap64 (by omega) (by omega)
    by_cases ht1 : nth a i = v
    · simp -implicitDefEqProofs [r47_0, r47_1, r47_2, r47_3, r47_4, r47_5, r47_6, r47_7, l47_0, h0, -List.getElem?_map, -getElem?_pos, List.getElem?_cons_zero, map_get, -List.map_take, -List.map_drop, take_map, drop_map, upd_ne, frOf_set, frOf_get, frOf_getD, encInt, t1, t7, t8, t9, hi, hwi, ht1]
      refine .ret _ _ (Or.inl ⟨_, rfl, (by first | rfl | assumption | simp [upd, *]), ?_⟩); exact any_hit hi (by simp [ht1])
    · simp -implicitDefEqProofs [r47_0, r47_1, r47_2, r47_3, r47_4, r47_5, r47_6, r47_7, l47_0, h0, -List.getElem?_map, -getElem?_pos, List.getElem?_cons_zero, map_get, -List.map_take, -List.map_drop, take_map, drop_map, upd_ne, frOf_set, frOf_get, frOf_getD, encInt, t1, t7, t8, t9, hi, hwi, ht1]
      refine .go _ _ ⟨_, rfl, (by first | rfl | assumption | simp [upd, *]), (by first | rfl | assumption | simp [upd, *]), (by first | rfl | assumption | simp [upd, *]), (by first | rfl | assumption | simp [upd, *]), rfl, ?_⟩; exact none_succ hf (by simp [ht1])
  · rintro fr S ⟨f, rfl, t1, t7, t8, t9, rfl, hf⟩
    simp -implicitDefEqProofs [r47_0, r47_1, r47_2, r47_3, r47_4, r47_5, r47_6, r47_7, l47_0, h0, -List.getElem?_map, -getElem?_pos, List.getElem?_cons_zero, map_get, -List.map_take, -List.map_drop, take_map, drop_map, upd_ne, frOf_set, frOf_get, frOf_getD, encInt, t1, t7, t8, t9]
    refine .exit _ _ _ (Or.inr ⟨_, rfl, ?_⟩)
    exact any_no hf
theorem e47 (a : (List Int)) (v : Int) (h0 : a.length ≤ 1048576) : evFL T 47 [.ts .imm 1 (a.map encInt), .int .i64 v] [] = some (.bool (hasI a v), []) := by
  rw [evFL_at fn47 (by simp)]
  simp -implicitDefEqProofs [c47, r47_0, r47_1, r47_2, r47_3, r47_4, r47_5, r47_6, r47_7, h0, -List.getElem?_map, -getElem?_pos, List.getElem?_cons_zero, map_get, -List.map_take, -List.map_drop, take_map, drop_map, upd_ne, frOf_set, frOf_get, frOf_getD, encInt]
  generalize hr : evCL T 0 (.loop l47_0) _ _ = r
  have h : R47_0 a v  r := by rw [← hr]; exact L47_0 a v h0  (0) _ _ (by omega) ⟨_, rfl, (by simp [upd, *]), (by simp [upd, *]), (by simp [upd, *]), (by simp [upd, *]), rfl, by simp⟩
  clear hr
  rcases h with h | h
  · obtain ⟨f0, rfl, u0_4, hf0⟩ := h
    simp -implicitDefEqProofs [r47_0, r47_1, r47_2, r47_3, r47_4, r47_5, r47_6, r47_7, h0, -List.getElem?_map, -getElem?_pos, List.getElem?_cons_zero, map_get, -List.map_take, -List.map_drop, take_map, drop_map, upd_ne, frOf_set, frOf_get, frOf_getD, encInt, u0_4, hf0] <;> try omega
  obtain ⟨f0, rfl, hf0⟩ := h
  simp -implicitDefEqProofs [r47_0, r47_1, r47_2, r47_3, r47_4, r47_5, r47_6, r47_7, h0, -List.getElem?_map, -getElem?_pos, List.getElem?_cons_zero, map_get, -List.map_take, -List.map_drop, take_map, drop_map, upd_ne, frOf_set, frOf_get, frOf_getD, encInt, hf0] <;> try omega
def stepP (n : Int) (l : List Rel) (p : List Int) (i : Nat) : Bool := decide (0 ≤ nth p i ∧ nth p i ≤ n) && !hasI (p.take i) (nth p i) && (!decide (0 < i) || !decide (kindOf (nth p (i - 1)) (nth p i) l = 0))
def stepsB (n : Int) (l : List Rel) (p : List Int) : Bool := allB p.length (stepP n l p) && inR (p.length : Int) 2 6
def kinds (l : List Rel) (p : List Int) : List Int := (List.range (p.length - 1)).map fun i => kindOf (nth p i) (nth p (i + 1)) l
theorem kinds_length (l : List Rel) (p : List Int) : (kinds l p).length = p.length - 1 := by simp [kinds]
theorem kinds_nth {l : List Rel} {p : List Int} {i : Nat} (h : i < p.length - 1) : nth (kinds l p) i = kindOf (nth p i) (nth p (i + 1)) l := by
  rw [nth_eq (by rw [kinds_length]; exact h)]; simp [kinds]
def free (d : Bool) : List Int → Bool
  | [] => true
  | k :: r => if d = true ∧ k ≠ 1 then false else free (d || !decide (k = 3)) r
def freeZ (d : Bool) : List Int → Bool
  | [] => true
  | k :: r => if k = 0 ∨ (d = true ∧ k ≠ 1) then false else freeZ (d || !decide (k = 3)) r
theorem freeZ_free {ks : List Int} : ∀ {d : Bool}, (∀ k ∈ ks, k ≠ 0) → freeZ d ks = free d ks := by
  induction ks with
  | nil => intro d _; rfl
  | cons k r ih =>
    intro d h
    have hk := h k (by simp)
    simp only [freeZ, free, hk, false_or]
    rw [ih fun y hy => h y (by simp [hy])]
theorem steps_kinds {n : Int} {l : List Rel} {p : List Int} (h : allB p.length (stepP n l p) = true) : ∀ k ∈ kinds l p, k ≠ 0 := by
  intro k hk
  simp only [kinds, List.mem_map, List.mem_range] at hk
  obtain ⟨i, hi, rfl⟩ := hk
  have h1 := allB_iff.1 h (i + 1) (by omega)
  simp [stepP] at h1
  exact h1.2
def valley (n : Int) (l : List Rel) (p : List Int) : Bool × Bool := if relsB n l = true ∧ stepsB n l p = true then (free false (kinds l p), true) else (false, false)
-- spec.l11Row
@[simp] theorem call53 {m : Nat} (args : List AV) (S : St) : evCall T m (evFL T) 53 args S = lendC (evFL T 53) S (lendAll S i53.pes args) := evCall0 fn53 rfl rfl args S
@[simp] theorem callz53 (args : List AV) (S : St) : evCallFz T (evFL T) 53 args S = lendZ (evFL T 53) S i53.res (lendAll S i53.pes args) := evCallFz0 fn53 rfl rfl args S
@[simp] theorem pes53 : i53.pes = [[0], [3], [1]] := rfl
@[simp] theorem body53 : i53.body = c53 := rfl
@[simp] theorem kind53 : i53.kind = 0 := rfl
@[simp] theorem tree53 : i53.tree = false := rfl
@[simp] theorem ntmps53 : i53.ntmps = 49 := rfl
@[simp] theorem results53 : i53.results = [(ResultVar.tmp 6)] := rfl
@[simp] theorem res53 : i53.res = [[0]] := rfl
def I53_0 (n : Int) (l : (List Rel)) (p : (List Int))  (i : Nat) (fr : Fr) (S : St) : Prop := ∃ f : Nat → AV, fr = frOf 49 f ∧ f 0 = .int .i64 n ∧ f 1 = .ts .imm 3 (l.map encRel) ∧ f 2 = .ts .imm 1 (p.map encInt) ∧ f 9 = .ts .imm 1 (p.map encInt) ∧ f 10 = .int .i64 p.length ∧ f 11 = .int .i64 i ∧ S = [] ∧ allB i (stepP n l p) = true
def R53_0 (n : Int) (l : (List Rel)) (p : (List Int))  (r : Option (Ex × Fr × St)) : Prop := (∃ f : Nat → AV, r = some (.ret, frOf 49 f, []) ∧ f 6 = .bool false ∧ allB p.length (stepP n l p) = false) ∨ (∃ f : Nat → AV, r = some (.exit 0, frOf 49 f, []) ∧ f 2 = .ts .imm 1 (p.map encInt) ∧ allB p.length (stepP n l p) = true)
theorem L53_0 (n : Int) (l : (List Rel)) (p : (List Int)) (h0 : l.length ≤ 1048576) (h1 : p.length ≤ 1048576)   : ∀ i fr S, i ≤ p.length → I53_0 n l p  i fr S → R53_0 n l p  (evCL T 0 (.loop l53_0) fr S) := by
  refine loopQ _ _ _ ?_ ?_
  · rintro i fr S hi ⟨f, rfl, t0, t1, t2, t9, t10, t11, rfl, hf⟩
    have hwi : IntKind.i64.wrap ((i : Int) + 1) = (i : Int) + 1 := wrap64 (by omega) (by omega)
    have hile : i ≤ p.length := Nat.le_of_lt hi
    have hmin : min i p.length = i := by omega
    have hib : i ≤ 1048576 := by omega
    by_cases ht1 : nth p i < 0
    · simp -implicitDefEqProofs [r53_0, r53_1, r53_2, r53_3, r53_4, r53_5, r53_6, r53_7, l53_0, h0, h1, call39, callz39, e39, call45, callz45, e45, call47, callz47, e47, -List.getElem?_map, -getElem?_pos, List.getElem?_cons_zero, map_get, -List.map_take, -List.map_drop, take_map, drop_map, upd_ne, frOf_set, frOf_get, frOf_getD, encInt, t0, t1, t2, t9, t10, t11, hi, hwi, ht1]
      refine .ret _ _ (Or.inl ⟨_, rfl, (by first | rfl | assumption | simp [upd, *]), ?_⟩); exact allB_no hi (by have h9 : ¬ (0 ≤ nth p i ∧ nth p i ≤ n) := (by omega); simp only [stepP, h9, decide_false, Bool.false_and])
    · by_cases ht2 : n < nth p i
      · simp -implicitDefEqProofs [r53_0, r53_1, r53_2, r53_3, r53_4, r53_5, r53_6, r53_7, l53_0, h0, h1, call39, callz39, e39, call45, callz45, e45, call47, callz47, e47, -List.getElem?_map, -getElem?_pos, List.getElem?_cons_zero, map_get, -List.map_take, -List.map_drop, take_map, drop_map, upd_ne, frOf_set, frOf_get, frOf_getD, encInt, t0, t1, t2, t9, t10, t11, hi, hwi, ht1, ht2]
        refine .ret _ _ (Or.inl ⟨_, rfl, (by first | rfl | assumption | simp [upd, *]), ?_⟩); exact allB_no hi (by have h9 : ¬ (0 ≤ nth p i ∧ nth p i ≤ n) := (by omega); simp only [stepP, h9, decide_false, Bool.false_and])
      · by_cases ht3 : hasI (p.take i) (nth p i) = true
        · simp -implicitDefEqProofs [r53_0, r53_1, r53_2, r53_3, r53_4, r53_5, r53_6, r53_7, l53_0, h0, h1, call39, callz39, e39, call45, callz45, e45, call47, callz47, e47, -List.getElem?_map, -getElem?_pos, List.getElem?_cons_zero, map_get, -List.map_take, -List.map_drop, take_map, drop_map, upd_ne, frOf_set, frOf_get, frOf_getD, encInt, t0, t1, t2, t9, t10, t11, hi, hwi, hile, hmin, hib, ht1, ht2, ht3]
          refine .ret _ _ (Or.inl ⟨_, rfl, (by first | rfl | assumption | simp [upd, *]), ?_⟩); exact allB_no hi (by simp [stepP, ht3])
        · by_cases ht4 : 0 < i
          · have hwp : IntKind.i64.wrap ((i : Int) - 1) = ((i - 1 : Nat) : Int) := by rw [wrap64 (by omega) (by omega)]; omega
            have hpi : i - 1 < p.length := by omega
            by_cases ht5 : kindOf (nth p (i - 1)) (nth p i) l = 0
            · simp -implicitDefEqProofs [r53_0, r53_1, r53_2, r53_3, r53_4, r53_5, r53_6, r53_7, l53_0, h0, h1, call39, callz39, e39, call45, callz45, e45, call47, callz47, e47, -List.getElem?_map, -getElem?_pos, List.getElem?_cons_zero, map_get, -List.map_take, -List.map_drop, take_map, drop_map, upd_ne, frOf_set, frOf_get, frOf_getD, encInt, t0, t1, t2, t9, t10, t11, hi, hwi, hile, hmin, hib, hwp, hpi, ht1, ht2, ht3, ht4, ht5]
              refine .ret _ _ (Or.inl ⟨_, rfl, (by first | rfl | assumption | simp [upd, *]), ?_⟩); exact allB_no hi (by simp [stepP, ht4, ht5])
            · simp -implicitDefEqProofs [r53_0, r53_1, r53_2, r53_3, r53_4, r53_5, r53_6, r53_7, l53_0, h0, h1, call39, callz39, e39, call45, callz45, e45, call47, callz47, e47, -List.getElem?_map, -getElem?_pos, List.getElem?_cons_zero, map_get, -List.map_take, -List.map_drop, take_map, drop_map, upd_ne, frOf_set, frOf_get, frOf_getD, encInt, t0, t1, t2, t9, t10, t11, hi, hwi, hile, hmin, hib, hwp, hpi, ht1, ht2, ht3, ht4, ht5]
              refine .go _ _ ⟨_, rfl, (by first | rfl | assumption | simp [upd, *]), (by first | rfl | assumption | simp [upd, *]), (by first | rfl | assumption | simp [upd, *]), (by first | rfl | assumption | simp [upd, *]), (by first | rfl | assumption | simp [upd, *]), (by first | rfl | assumption | simp [upd, *]), rfl, ?_⟩; rw [allB_succ, hf]; simp [stepP, ht1, ht2, ht3, ht4, ht5]; omega
          · simp -implicitDefEqProofs [r53_0, r53_1, r53_2, r53_3, r53_4, r53_5, r53_6, r53_7, l53_0, h0, h1, call39, callz39, e39, call45, callz45, e45, call47, callz47, e47, -List.getElem?_map, -getElem?_pos, List.getElem?_cons_zero, map_get, -List.map_take, -List.map_drop, take_map, drop_map, upd_ne, frOf_set, frOf_get, frOf_getD, encInt, t0, t1, t2, t9, t10, t11, hi, hwi, hile, hmin, hib, ht1, ht2, ht3, ht4]
            refine .go _ _ ⟨_, rfl, (by first | rfl | assumption | simp [upd, *]), (by first | rfl | assumption | simp [upd, *]), (by first | rfl | assumption | simp [upd, *]), (by first | rfl | assumption | simp [upd, *]), (by first | rfl | assumption | simp [upd, *]), (by first | rfl | assumption | simp [upd, *]), rfl, ?_⟩; rw [allB_succ, hf]; simp [stepP, ht1, ht2, ht3, ht4]; omega
  · rintro fr S ⟨f, rfl, t0, t1, t2, t9, t10, t11, rfl, hf⟩
    simp -implicitDefEqProofs [r53_0, r53_1, r53_2, r53_3, r53_4, r53_5, r53_6, r53_7, l53_0, h0, h1, call39, callz39, e39, call45, callz45, e45, call47, callz47, e47, -List.getElem?_map, -getElem?_pos, List.getElem?_cons_zero, map_get, -List.map_take, -List.map_drop, take_map, drop_map, upd_ne, frOf_set, frOf_get, frOf_getD, encInt, t0, t1, t2, t9, t10, t11]
    refine .exit _ _ _ (Or.inr ⟨_, rfl, (by first | rfl | assumption | simp [upd, *]), ?_⟩)
    first | trivial | assumption | simp [*]
theorem e53 (n : Int) (l : (List Rel)) (p : (List Int)) (h0 : l.length ≤ 1048576) (h1 : p.length ≤ 1048576) : evFL T 53 [.int .i64 n, .ts .imm 3 (l.map encRel), .ts .imm 1 (p.map encInt)] [] = some (.bool (stepsB n l p), []) := by
  rw [evFL_at fn53 (by simp)]
  simp -implicitDefEqProofs [c53, r53_0, r53_1, r53_2, r53_3, r53_4, r53_5, r53_6, r53_7, h0, h1, call39, callz39, e39, call45, callz45, e45, call47, callz47, e47, -List.getElem?_map, -getElem?_pos, List.getElem?_cons_zero, map_get, -List.map_take, -List.map_drop, take_map, drop_map, upd_ne, frOf_set, frOf_get, frOf_getD, encInt]
  generalize hr : evCL T 0 (.loop l53_0) _ _ = r
  have h : R53_0 n l p  r := by rw [← hr]; exact L53_0 n l p h0 h1  (0) _ _ (by omega) ⟨_, rfl, (by simp [upd, *]), (by simp [upd, *]), (by simp [upd, *]), (by simp [upd, *]), (by simp [upd, *]), (by simp [upd, *]), rfl, by first | trivial | assumption | simp⟩
  clear hr
  rcases h with h | h
  · obtain ⟨f0, rfl, u0_6, hf0⟩ := h
    simp -implicitDefEqProofs [r53_0, r53_1, r53_2, r53_3, r53_4, r53_5, r53_6, r53_7, h0, h1, call39, callz39, e39, call45, callz45, e45, call47, callz47, e47, -List.getElem?_map, -getElem?_pos, List.getElem?_cons_zero, map_get, -List.map_take, -List.map_drop, take_map, drop_map, upd_ne, frOf_set, frOf_get, frOf_getD, encInt, u0_6, hf0, stepsB]
  obtain ⟨f0, rfl, u0_2, hf0⟩ := h
  simp -implicitDefEqProofs [r53_0, r53_1, r53_2, r53_3, r53_4, r53_5, r53_6, r53_7, h0, h1, call39, callz39, e39, call45, callz45, e45, call47, callz47, e47, -List.getElem?_map, -getElem?_pos, List.getElem?_cons_zero, map_get, -List.map_take, -List.map_drop, take_map, drop_map, upd_ne, frOf_set, frOf_get, frOf_getD, encInt, u0_2, hf0, stepsB]
-- spec.l11Free
@[simp] theorem call54 {m : Nat} (args : List AV) (S : St) : evCall T m (evFL T) 54 args S = lendC (evFL T 54) S (lendAll S i54.pes args) := evCall0 fn54 rfl rfl args S
@[simp] theorem callz54 (args : List AV) (S : St) : evCallFz T (evFL T) 54 args S = lendZ (evFL T 54) S i54.res (lendAll S i54.pes args) := evCallFz0 fn54 rfl rfl args S
@[simp] theorem pes54 : i54.pes = [[3], [1]] := rfl
@[simp] theorem body54 : i54.body = c54 := rfl
@[simp] theorem kind54 : i54.kind = 0 := rfl
@[simp] theorem tree54 : i54.tree = false := rfl
@[simp] theorem ntmps54 : i54.ntmps = 35 := rfl
@[simp] theorem results54 : i54.results = [(ResultVar.tmp 4)] := rfl
@[simp] theorem res54 : i54.res = [[0]] := rfl
def I54_0 (l : (List Rel)) (p : (List Int))  (i : Nat) (fr : Fr) (S : St) : Prop := ∃ f : Nat → AV, ∃ d : Bool, fr = frOf 35 f ∧ f 0 = .ts .imm 3 (l.map encRel) ∧ f 1 = .ts .imm 1 (p.map encInt) ∧ f 5 = .bool d ∧ f 6 = .int .i64 ((i : Int) + 1) ∧ S = [] ∧ free d ((kinds l p).drop i) = free false (kinds l p)
def R54_0 (l : (List Rel)) (p : (List Int))  (r : Option (Ex × Fr × St)) : Prop := (∃ f : Nat → AV, r = some (.ret, frOf 35 f, []) ∧ f 4 = .bool false ∧ free false (kinds l p) = false) ∨ (∃ f : Nat → AV, r = some (.exit 0, frOf 35 f, []) ∧ free false (kinds l p) = true)
theorem L54_0 (l : (List Rel)) (p : (List Int)) (h0 : l.length ≤ 1048576) (h1 : p.length ≤ 1048576)   : ∀ i fr S, i ≤ p.length - 1 → I54_0 l p  i fr S → R54_0 l p  (evCL T 0 (.loop l54_0) fr S) := by
  refine loopQ _ _ _ ?_ ?_
  · rintro i fr S hi ⟨f, d, rfl, t0, t1, t5, t6, rfl, hf⟩
    have hwi : IntKind.i64.wrap ((i : Int) + 1) = (i : Int) + 1 := wrap64 (by omega) (by omega)
    have hi0 : i + 1 < p.length := by omega
    have hi2 : i < p.length := by omega
    have hs : (i : Int) + 1 < (p.length : Int) := by omega
    have hz : (0 : Int) ≤ (i : Int) + 1 := by omega
    have hw0 : IntKind.i64.wrap (i : Int) = (i : Int) := wrap64 (by omega) (by omega)
    have hw1 : IntKind.i64.wrap ((i : Int) + 1 + 1) = (i : Int) + 1 + 1 := wrap64 (by omega) (by omega)
    rw [drop_nth (by rw [kinds_length]; exact hi), kinds_nth hi] at hf
    simp only [free] at hf
    by_cases ht1 : d = true
    · by_cases ht2 : kindOf (nth p i) (nth p (i + 1)) l = 1
      · simp -implicitDefEqProofs [r54_0, r54_1, r54_2, r54_3, r54_4, r54_5, r54_6, r54_7, r54_8, r54_9, l54_0, h0, h1, call45, callz45, e45, -List.getElem?_map, -getElem?_pos, List.getElem?_cons_zero, map_get, -List.map_take, -List.map_drop, take_map, drop_map, upd_ne, frOf_set, frOf_get, frOf_getD, encInt, t0, t1, t5, t6, hi0, hi2, hs, hz, hw0, hw1, ht1, ht2]
        refine .go _ _ ⟨_, _, rfl, (by first | rfl | assumption | simp [upd, *]), (by first | rfl | assumption | simp [upd, *]), (by first | rfl | assumption | simp [upd, *]), (by first | rfl | assumption | simp [upd, *]), rfl, ?_⟩; simp [free, ht1, ht2] at hf; exact hf
      · simp -implicitDefEqProofs [r54_0, r54_1, r54_2, r54_3, r54_4, r54_5, r54_6, r54_7, r54_8, r54_9, l54_0, h0, h1, call45, callz45, e45, -List.getElem?_map, -getElem?_pos, List.getElem?_cons_zero, map_get, -List.map_take, -List.map_drop, take_map, drop_map, upd_ne, frOf_set, frOf_get, frOf_getD, encInt, t0, t1, t5, t6, hi0, hi2, hs, hz, hw0, hw1, ht1, ht2]
        refine .ret _ _ (Or.inl ⟨_, rfl, (by first | rfl | assumption | simp [upd, *]), ?_⟩); simp [free, ht1, ht2] at hf; first | exact hf | exact hf.symm
    · by_cases ht3 : kindOf (nth p i) (nth p (i + 1)) l = 3
      · simp -implicitDefEqProofs [r54_0, r54_1, r54_2, r54_3, r54_4, r54_5, r54_6, r54_7, r54_8, r54_9, l54_0, h0, h1, call45, callz45, e45, -List.getElem?_map, -getElem?_pos, List.getElem?_cons_zero, map_get, -List.map_take, -List.map_drop, take_map, drop_map, upd_ne, frOf_set, frOf_get, frOf_getD, encInt, t0, t1, t5, t6, hi0, hi2, hs, hz, hw0, hw1, ht1, ht3]
        refine .go _ _ ⟨_, _, rfl, (by first | rfl | assumption | simp [upd, *]), (by first | rfl | assumption | simp [upd, *]), (by first | rfl | assumption | simp [upd, *]), (by first | rfl | assumption | simp [upd, *]), rfl, ?_⟩; simp [free, ht1, ht3] at hf; exact hf
      · simp -implicitDefEqProofs [r54_0, r54_1, r54_2, r54_3, r54_4, r54_5, r54_6, r54_7, r54_8, r54_9, l54_0, h0, h1, call45, callz45, e45, -List.getElem?_map, -getElem?_pos, List.getElem?_cons_zero, map_get, -List.map_take, -List.map_drop, take_map, drop_map, upd_ne, frOf_set, frOf_get, frOf_getD, encInt, t0, t1, t5, t6, hi0, hi2, hs, hz, hw0, hw1, ht1, ht3]
        refine .go _ _ ⟨_, _, rfl, (by first | rfl | assumption | simp [upd, *]), (by first | rfl | assumption | simp [upd, *]), (by first | rfl | assumption | simp [upd, *]), (by first | rfl | assumption | simp [upd, *]), rfl, ?_⟩; simp [free, ht1, ht3] at hf; exact hf
  · rintro fr S ⟨f, d, rfl, t0, t1, t5, t6, rfl, hf⟩
    have hst : ¬ (((p.length - 1 : Nat) : Int) + 1 < (p.length : Int)) := by omega
    simp -implicitDefEqProofs [r54_0, r54_1, r54_2, r54_3, r54_4, r54_5, r54_6, r54_7, r54_8, r54_9, l54_0, h0, h1, call45, callz45, e45, -List.getElem?_map, -getElem?_pos, List.getElem?_cons_zero, map_get, -List.map_take, -List.map_drop, take_map, drop_map, upd_ne, frOf_set, frOf_get, frOf_getD, encInt, t0, t1, t5, t6, hst]
    refine .exit _ _ _ (Or.inr ⟨_, rfl, ?_⟩)
    rw [List.drop_eq_nil_of_le (by rw [kinds_length]; exact Nat.le_refl _)] at hf; simpa [free] using hf.symm
theorem e54 (l : (List Rel)) (p : (List Int)) (h0 : l.length ≤ 1048576) (h1 : p.length ≤ 1048576) : evFL T 54 [.ts .imm 3 (l.map encRel), .ts .imm 1 (p.map encInt)] [] = some (.bool (free false (kinds l p)), []) := by
  rw [evFL_at fn54 (by simp)]
  simp -implicitDefEqProofs [c54, r54_0, r54_1, r54_2, r54_3, r54_4, r54_5, r54_6, r54_7, r54_8, r54_9, h0, h1, call45, callz45, e45, -List.getElem?_map, -getElem?_pos, List.getElem?_cons_zero, map_get, -List.map_take, -List.map_drop, take_map, drop_map, upd_ne, frOf_set, frOf_get, frOf_getD, encInt]
  generalize hr : evCL T 0 (.loop l54_0) _ _ = r
  have h : R54_0 l p  r := by rw [← hr]; exact L54_0 l p h0 h1  (0) _ _ (by omega) ⟨_, (false), rfl, (by simp [upd, *]), (by simp [upd, *]), (by simp [upd, *]), (by simp [upd, *]), rfl, by simp⟩
  clear hr
  rcases h with h | h
  · obtain ⟨f0, rfl, u0_4, hf0⟩ := h
    simp -implicitDefEqProofs [r54_0, r54_1, r54_2, r54_3, r54_4, r54_5, r54_6, r54_7, r54_8, r54_9, h0, h1, call45, callz45, e45, -List.getElem?_map, -getElem?_pos, List.getElem?_cons_zero, map_get, -List.map_take, -List.map_drop, take_map, drop_map, upd_ne, frOf_set, frOf_get, frOf_getD, encInt, u0_4, hf0] <;> try omega
  obtain ⟨f0, rfl, hf0⟩ := h
  simp -implicitDefEqProofs [r54_0, r54_1, r54_2, r54_3, r54_4, r54_5, r54_6, r54_7, r54_8, r54_9, h0, h1, call45, callz45, e45, -List.getElem?_map, -getElem?_pos, List.getElem?_cons_zero, map_get, -List.map_take, -List.map_drop, take_map, drop_map, upd_ne, frOf_set, frOf_get, frOf_getD, encInt, hf0] <;> try omega
-- spec.IsValleyFree
@[simp] theorem call22 {m : Nat} (args : List AV) (S : St) : evCall T m (evFL T) 22 args S = lendC (evFL T 22) S (lendAll S i22.pes args) := evCall0 fn22 rfl rfl args S
@[simp] theorem callz22 (args : List AV) (S : St) : evCallFz T (evFL T) 22 args S = lendZ (evFL T 22) S i22.res (lendAll S i22.pes args) := evCallFz0 fn22 rfl rfl args S
@[simp] theorem pes22 : i22.pes = [[0], [3], [1]] := rfl
@[simp] theorem body22 : i22.body = c22 := rfl
@[simp] theorem kind22 : i22.kind = 0 := rfl
@[simp] theorem tree22 : i22.tree = false := rfl
@[simp] theorem ntmps22 : i22.ntmps = 22 := rfl
@[simp] theorem results22 : i22.results = [(ResultVar.tmp 6), (ResultVar.tmp 7)] := rfl
@[simp] theorem res22 : i22.res = [[0], [0]] := rfl
theorem e22 (n : Int) (l : (List Rel)) (p : (List Int)) (h0 : l.length ≤ 1048576) (h1 : p.length ≤ 1048576) : evFL T 22 [.int .i64 n, .ts .imm 3 (l.map encRel), .ts .imm 1 (p.map encInt)] [] = some (.tup [.bool (valley n l p).1, .bool (valley n l p).2], []) := by
  rw [evFL_at fn22 (by simp)]
  by_cases ht1 : relsB n l = true
  · by_cases ht2 : stepsB n l p = true
    · simp -implicitDefEqProofs [c22, r22_0, r22_1, r22_2, r22_3, h0, h1, call12, callz12, e12, call53, callz53, e53, call54, callz54, e54, -List.getElem?_map, -getElem?_pos, List.getElem?_cons_zero, map_get, -List.map_take, -List.map_drop, take_map, drop_map, upd_ne, frOf_set, frOf_get, frOf_getD, valley, ht1, ht2]
    · simp -implicitDefEqProofs [c22, r22_0, r22_1, r22_2, r22_3, h0, h1, call12, callz12, e12, call53, callz53, e53, call54, callz54, e54, -List.getElem?_map, -getElem?_pos, List.getElem?_cons_zero, map_get, -List.map_take, -List.map_drop, take_map, drop_map, upd_ne, frOf_set, frOf_get, frOf_getD, valley, ht1, ht2]
  · simp -implicitDefEqProofs [c22, r22_0, r22_1, r22_2, r22_3, h0, h1, call12, callz12, e12, call53, callz53, e53, call54, callz54, e54, -List.getElem?_map, -getElem?_pos, List.getElem?_cons_zero, map_get, -List.map_take, -List.map_drop, take_map, drop_map, upd_ne, frOf_set, frOf_get, frOf_getD, valley, ht1]
theorem fset23 {a : (List Int)} {i : Nat} (h : i < a.length) : (filled encInt [.int .i64 0] a i).set i [.int .i64 (nth a i)] = filled encInt [.int .i64 0] a (i + 1) := filled_set h
-- laws.toIntS
@[simp] theorem call23 {m : Nat} (args : List AV) (S : St) : evCall T m (evFL T) 23 args S = lendC (evFL T 23) S (lendAll S i23.pes args) := evCall0 fn23 rfl rfl args S
@[simp] theorem callz23 (args : List AV) (S : St) : evCallFz T (evFL T) 23 args S = lendZ (evFL T 23) S i23.res (lendAll S i23.pes args) := evCallFz0 fn23 rfl rfl args S
@[simp] theorem pes23 : i23.pes = [[1]] := rfl
@[simp] theorem body23 : i23.body = c23 := rfl
@[simp] theorem kind23 : i23.kind = 0 := rfl
@[simp] theorem tree23 : i23.tree = false := rfl
@[simp] theorem ntmps23 : i23.ntmps = 22 := rfl
@[simp] theorem results23 : i23.results = [(ResultVar.tmp 2)] := rfl
@[simp] theorem res23 : i23.res = [[1]] := rfl
def I23_0 (a : (List Int))  (i : Nat) (fr : Fr) (S : St) : Prop := ∃ f : Nat → AV, fr = frOf 22 f ∧ f 0 = .ts .imm 1 (a.map encInt) ∧ f 3 = .sl 0 0 a.length ∧ f 4 = .int .i64 i ∧ S = [some ⟨.arr, 1, filled encInt [.int .i64 0] a i⟩] ∧ True
def R23_0 (a : (List Int))  (r : Option (Ex × Fr × St)) : Prop := (∃ f : Nat → AV, r = some (.exit 0, frOf 22 f, [some ⟨.arr, 1, filled encInt [.int .i64 0] a a.length⟩]) ∧ f 3 = .sl 0 0 a.length ∧ True)
theorem L23_0 (a : (List Int)) (ha0 : a.length ≤ 1048576)   : ∀ i fr S, i ≤ a.length → I23_0 a  i fr S → R23_0 a  (evCL T 0 (.loop l23_0) fr S) := by
  refine loopQ _ _ _ ?_ ?_
  · rintro i fr S hi ⟨f, rfl, t0, t3, t4, rfl, hf⟩
    have hm : (a.length : Int) ≤ 4294967296 := by omega
    have hm1 : a.length ≤ 4294967296 := by omega
    have hwi : IntKind.i64.wrap ((i : Int) + 1) = (i : Int) + 1 := wrap64 (by omega) (by omega)
    all_goals simp -implicitDefEqProofs [r23_0, r23_1, r23_2, r23_3, r23_4, r23_5, r23_6, l23_0, ha0, -List.getElem?_map, -getElem?_pos, List.getElem?_cons_zero, map_get, -List.map_take, -List.map_drop, take_map, drop_map, upd_ne, frOf_set, frOf_get, frOf_getD, encInt, hm, hm1, fset23, filled_get, t0, t3, t4, hi, hwi]
    all_goals first | (refine .go _ _ ⟨_, rfl, (by first | rfl | assumption | simp [upd, *]), (by first | rfl | assumption | simp [upd, *]), (by first | rfl | assumption | simp [upd, *]), rfl, ?_⟩; first | trivial | assumption | simp [*]) | (refine .exit _ _ _ ⟨_, rfl, (by first | rfl | assumption | simp [upd, *]), ?_⟩; first | trivial | assumption | simp [*])
  · rintro fr S ⟨f, rfl, t0, t3, t4, rfl, hf⟩
    have hm : (a.length : Int) ≤ 4294967296 := by omega
    have hm1 : a.length ≤ 4294967296 := by omega
    simp -implicitDefEqProofs [r23_0, r23_1, r23_2, r23_3, r23_4, r23_5, r23_6, l23_0, ha0, -List.getElem?_map, -getElem?_pos, List.getElem?_cons_zero, map_get, -List.map_take, -List.map_drop, take_map, drop_map, upd_ne, frOf_set, frOf_get, frOf_getD, encInt, hm, hm1, fset23, filled_get, t0, t3, t4]
    refine .exit _ _ _ ⟨_, rfl, (by first | rfl | assumption | simp [upd, *]), ?_⟩
    first | trivial | assumption | simp [*]
theorem e23 (a : (List Int)) (ha0 : a.length ≤ 1048576) : evFL T 23 [.ts .imm 1 (a.map encInt)] [] = some (.sl 0 0 a.length, [some ⟨.arr, 1, a.map encInt⟩]) := by
  rw [evFL_at fn23 (by simp)]
  have hm : (a.length : Int) ≤ 4294967296 := by omega
  have hm1 : a.length ≤ 4294967296 := by omega
  simp -implicitDefEqProofs [c23, r23_0, r23_1, r23_2, r23_3, r23_4, r23_5, r23_6, ha0, -List.getElem?_map, -getElem?_pos, List.getElem?_cons_zero, map_get, -List.map_take, -List.map_drop, take_map, drop_map, upd_ne, frOf_set, frOf_get, frOf_getD, encInt, hm, hm1]
  generalize hr : evCL T 0 (.loop l23_0) _ _ = r
  have h : R23_0 a  r := by rw [← hr]; exact L23_0 a ha0  (0) _ _ (by omega) ⟨_, rfl, (by simp [upd, *]), (by simp [upd, *]), (by simp [upd, *]), by simp [← filled_zero], by first | trivial | assumption | simp⟩
  clear hr
  obtain ⟨f0, rfl, u0_3, hf0⟩ := h
  simp -implicitDefEqProofs [r23_0, r23_1, r23_2, r23_3, r23_4, r23_5, r23_6, ha0, -List.getElem?_map, -getElem?_pos, List.getElem?_cons_zero, map_get, -List.map_take, -List.map_drop, take_map, drop_map, upd_ne, frOf_set, frOf_get, frOf_getD, encInt, hm, hm1, u0_3, hf0, filled_end]
-- impl.within
@[simp] theorem call41 {m : Nat} (args : List AV) (S : St) : evCall T m (evFL T) 41 args S = lendC (evFL T 41) S (lendAll S i41.pes args) := evCall0 fn41 rfl rfl args S
@[simp] theorem callz41 (args : List AV) (S : St) : evCallFz T (evFL T) 41 args S = lendZ (evFL T 41) S i41.res (lendAll S i41.pes args) := evCallFz0 fn41 rfl rfl args S
@[simp] theorem pes41 : i41.pes = [[0], [0], [0]] := rfl
@[simp] theorem body41 : i41.body = c41 := rfl
@[simp] theorem kind41 : i41.kind = 0 := rfl
@[simp] theorem tree41 : i41.tree = false := rfl
@[simp] theorem ntmps41 : i41.ntmps = 15 := rfl
@[simp] theorem results41 : i41.results = [(ResultVar.tmp 6)] := rfl
@[simp] theorem res41 : i41.res = [[0]] := rfl
theorem e41 (a : Int) (b : Int) (c : Int)  : evFL T 41 [.int .i64 a, .int .i64 b, .int .i64 c] [] = some (.bool (inR a b c), []) := by
  rw [evFL_at fn41 (by simp)]
  by_cases hc0 : b ≤ a
  all_goals simp -implicitDefEqProofs [c41, r41_0, r41_1, -List.getElem?_map, -getElem?_pos, List.getElem?_cons_zero, map_get, -List.map_take, -List.map_drop, take_map, drop_map, upd_ne, frOf_set, frOf_get, frOf_getD, inR, hc0]
-- slices.IndexFunc[[]loop.example/g00344/impl.Rel,loop.example/g00344/impl.Rel]
@[simp] theorem call70 {m : Nat} (args : List AV) (S : St) : evCall T m (evFL T) 70 args S = lendC (evFL T 70) S (lendAll S i70.pes args) := evCall0 fn70 rfl rfl args S
@[simp] theorem callz70 (args : List AV) (S : St) : evCallFz T (evFL T) 70 args S = lendZ (evFL T 70) S i70.res (lendAll S i70.pes args) := evCallFz0 fn70 rfl rfl args S
@[simp] theorem pes70 : i70.pes = [[3], [0]] := rfl
@[simp] theorem body70 : i70.body = c70 := rfl
@[simp] theorem kind70 : i70.kind = 0 := rfl
@[simp] theorem tree70 : i70.tree = false := rfl
@[simp] theorem ntmps70 : i70.ntmps = 19 := rfl
@[simp] theorem results70 : i70.results = [(ResultVar.tmp 4)] := rfl
@[simp] theorem res70 : i70.res = [[0]] := rfl
def I70_0 (a : (List Rel)) (g : Nat) (caps : List AV) (p : Rel → Bool)  (i : Nat) (fr : Fr) (S : St) : Prop := ∃ f : Nat → AV, fr = frOf 19 f ∧ f 0 = .ts .imm 3 (a.map encRel) ∧ f 1 = .fn g caps ∧ f 7 = .int .i64 a.length ∧ f 8 = .int .i64 i ∧ S = [] ∧ ∀ j, j < i → p (nth a j) = false
def R70_0 (a : (List Rel)) (g : Nat) (caps : List AV) (p : Rel → Bool)  (r : Option (Ex × Fr × St)) : Prop := (∃ f : Nat → AV, ∃ j : Int, r = some (.ret, frOf 19 f, []) ∧ f 4 = .int .i64 j ∧ idxF p a = j) ∨ (∃ f : Nat → AV, r = some (.exit 0, frOf 19 f, []) ∧ idxF p a = -1)
theorem L70_0 (a : (List Rel)) (g : Nat) (caps : List AV) (p : Rel → Bool) (hp : ∀ x ∈ a, ∀ (m : Nat) (S : St), evCall T m (evFL T) g (.agg [.int .i64 x.a, .int .i64 x.b, .int .i64 x.kind] :: caps) S = some (.bool (p x), S)) (hn : a.length ≤ 9223372036854775807)   : ∀ i fr S, i ≤ a.length → I70_0 a g caps p  i fr S → R70_0 a g caps p  (evCL T 0 (.loop l70_0) fr S) := by
  refine loopQ _ _ _ ?_ ?_
  · rintro i fr S hi ⟨f, rfl, t0, t1, t7, t8, rfl, hf⟩
    have hwi : IntKind.i64.wrap ((i : Int) + 1) = (i : Int) + 1 := wrap64 (by omega) (by omega)
    have hpi := hp (nth a i) (nth_mem hi) 0
    cases hc : p (nth a i)
    · simp -implicitDefEqProofs [r70_0, r70_1, r70_2, r70_3, r70_4, r70_5, r70_6, r70_7, l70_0, hp, hn, -List.getElem?_map, -getElem?_pos, List.getElem?_cons_zero, map_get, -List.map_take, -List.map_drop, take_map, drop_map, upd_ne, frOf_set, frOf_get, frOf_getD, encRel, t0, t1, t7, t8, hi, hwi, hpi, hc]
      refine .go _ _ ⟨_, rfl, (by first | rfl | assumption | simp [upd, *]), (by first | rfl | assumption | simp [upd, *]), (by first | rfl | assumption | simp [upd, *]), (by first | rfl | assumption | simp [upd, *]), rfl, ?_⟩; exact none_succ hf hc
    · simp -implicitDefEqProofs [r70_0, r70_1, r70_2, r70_3, r70_4, r70_5, r70_6, r70_7, l70_0, hp, hn, -List.getElem?_map, -getElem?_pos, List.getElem?_cons_zero, map_get, -List.map_take, -List.map_drop, take_map, drop_map, upd_ne, frOf_set, frOf_get, frOf_getD, encRel, t0, t1, t7, t8, hi, hwi, hpi, hc]
      refine .ret _ _ (Or.inl ⟨_, _, rfl, (by first | rfl | assumption | simp [upd, *]), ?_⟩); exact idxF_hit hi hf hc
  · rintro fr S ⟨f, rfl, t0, t1, t7, t8, rfl, hf⟩
    simp -implicitDefEqProofs [r70_0, r70_1, r70_2, r70_3, r70_4, r70_5, r70_6, r70_7, l70_0, hp, hn, -List.getElem?_map, -getElem?_pos, List.getElem?_cons_zero, map_get, -List.map_take, -List.map_drop, take_map, drop_map, upd_ne, frOf_set, frOf_get, frOf_getD, encRel, t0, t1, t7, t8]
    refine .exit _ _ _ (Or.inr ⟨_, rfl, ?_⟩)
    exact idxF_miss hf
theorem e70 (a : (List Rel)) (g : Nat) (caps : List AV) (p : Rel → Bool) (hp : ∀ x ∈ a, ∀ (m : Nat) (S : St), evCall T m (evFL T) g (.agg [.int .i64 x.a, .int .i64 x.b, .int .i64 x.kind] :: caps) S = some (.bool (p x), S)) (hn : a.length ≤ 9223372036854775807) : evFL T 70 [.ts .imm 3 (a.map encRel), .fn g caps] [] = some (.int .i64 (idxF p a), []) := by
  rw [evFL_at fn70 (by simp)]
  simp -implicitDefEqProofs [c70, r70_0, r70_1, r70_2, r70_3, r70_4, r70_5, r70_6, r70_7, hp, hn, -List.getElem?_map, -getElem?_pos, List.getElem?_cons_zero, map_get, -List.map_take, -List.map_drop, take_map, drop_map, upd_ne, frOf_set, frOf_get, frOf_getD, encRel]
  generalize hr : evCL T 0 (.loop l70_0) _ _ = r
  have h : R70_0 a g caps p  r := by rw [← hr]; exact L70_0 a g caps p hp hn  (0) _ _ (by omega) ⟨_, rfl, (by simp [upd, *]), (by simp [upd, *]), (by simp [upd, *]), (by simp [upd, *]), rfl, by simp⟩
  clear hr
  rcases h with h | h
  · obtain ⟨f0, j, rfl, u0_4, hf0⟩ := h
    simp -implicitDefEqProofs [r70_0, r70_1, r70_2, r70_3, r70_4, r70_5, r70_6, r70_7, hp, hn, -List.getElem?_map, -getElem?_pos, List.getElem?_cons_zero, map_get, -List.map_take, -List.map_drop, take_map, drop_map, upd_ne, frOf_set, frOf_get, frOf_getD, encRel, u0_4, hf0] <;> try omega
  obtain ⟨f0, rfl, hf0⟩ := h
  simp -implicitDefEqProofs [r70_0, r70_1, r70_2, r70_3, r70_4, r70_5, r70_6, r70_7, hp, hn, -List.getElem?_map, -getElem?_pos, List.getElem?_cons_zero, map_get, -List.map_take, -List.map_drop, take_map, drop_map, upd_ne, frOf_set, frOf_get, frOf_getD, encRel, hf0] <;> try omega
-- slices.ContainsFunc[[]loop.example/g00344/impl.Rel,loop.example/g00344/impl.Rel]
@[simp] theorem call42 {m : Nat} (args : List AV) (S : St) : evCall T m (evFL T) 42 args S = lendC (evFL T 42) S (lendAll S i42.pes args) := evCall0 fn42 rfl rfl args S
@[simp] theorem callz42 (args : List AV) (S : St) : evCallFz T (evFL T) 42 args S = lendZ (evFL T 42) S i42.res (lendAll S i42.pes args) := evCallFz0 fn42 rfl rfl args S
@[simp] theorem pes42 : i42.pes = [[3], [0]] := rfl
@[simp] theorem body42 : i42.body = c42 := rfl
@[simp] theorem kind42 : i42.kind = 0 := rfl
@[simp] theorem tree42 : i42.tree = false := rfl
@[simp] theorem ntmps42 : i42.ntmps = 9 := rfl
@[simp] theorem results42 : i42.results = [(ResultVar.tmp 4)] := rfl
@[simp] theorem res42 : i42.res = [[0]] := rfl
theorem e42 (a : (List Rel)) (g : Nat) (caps : List AV) (p : Rel → Bool) (hp : ∀ x ∈ a, ∀ (m : Nat) (S : St), evCall T m (evFL T) g (.agg [.int .i64 x.a, .int .i64 x.b, .int .i64 x.kind] :: caps) S = some (.bool (p x), S)) (hn : a.length ≤ 9223372036854775807) (hcaps : ∀ S, mapO (lendPtr S) caps = some caps) : evFL T 42 [.ts .imm 3 (a.map encRel), .fn g caps] [] = some (.bool (a.any p), []) := by
  rw [evFL_at fn42 (by simp)]
  have he := e70 a g caps p hp hn
  all_goals simp -implicitDefEqProofs [c42, r42_0, r42_1, hp, hn, hcaps, call70, callz70, e70, -List.getElem?_map, -getElem?_pos, List.getElem?_cons_zero, map_get, -List.map_take, -List.map_drop, take_map, drop_map, upd_ne, frOf_set, frOf_get, frOf_getD, he, idxF_any]
-- impl.GoodRels$1
@[simp] theorem call43 {m : Nat} (args : List AV) (S : St) : evCall T m (evFL T) 43 args S = lendC (evFL T 43) S (lendAll S i43.pes args) := evCall0 fn43 rfl rfl args S
@[simp] theorem callz43 (args : List AV) (S : St) : evCallFz T (evFL T) 43 args S = lendZ (evFL T 43) S i43.res (lendAll S i43.pes args) := evCallFz0 fn43 rfl rfl args S
@[simp] theorem pes43 : i43.pes = [[0, 0, 0], [0]] := rfl
@[simp] theorem body43 : i43.body = c43 := rfl
@[simp] theorem kind43 : i43.kind = 0 := rfl
@[simp] theorem tree43 : i43.tree = false := rfl
@[simp] theorem ntmps43 : i43.ntmps = 16 := rfl
@[simp] theorem results43 : i43.results = [(ResultVar.tmp 3)] := rfl
@[simp] theorem res43 : i43.res = [[0]] := rfl
theorem e43 (y_a : Int) (y_b : Int) (y_kind : Int) (xa : Int) (xb : Int) (xk : Int)  : evFL T 43 [.agg [.int .i64 y_a, .int .i64 y_b, .int .i64 y_kind], .tp .imm 3 [[.int .i64 xa, .int .i64 xb, .int .i64 xk]] 0 0] [] = some (.bool (relEq (⟨xa, xb, xk⟩ : Rel) (⟨y_a, y_b, y_kind⟩ : Rel)), []) := by
  rw [evFL_at fn43 (by simp)]
  by_cases hc0 : xa = y_a
  all_goals simp -implicitDefEqProofs [c43, r43_0, r43_1, -List.getElem?_map, -getElem?_pos, List.getElem?_cons_zero, map_get, -List.map_take, -List.map_drop, take_map, drop_map, upd_ne, frOf_set, frOf_get, frOf_getD, relEq, hc0]
-- impl.GoodRels
@[simp] theorem call14 {m : Nat} (args : List AV) (S : St) : evCall T m (evFL T) 14 args S = lendC (evFL T 14) S (lendAll S i14.pes args) := evCall0 fn14 rfl rfl args S
@[simp] theorem callz14 (args : List AV) (S : St) : evCallFz T (evFL T) 14 args S = lendZ (evFL T 14) S i14.res (lendAll S i14.pes args) := evCallFz0 fn14 rfl rfl args S
@[simp] theorem pes14 : i14.pes = [[0], [3]] := rfl
@[simp] theorem body14 : i14.body = c14 := rfl
@[simp] theorem kind14 : i14.kind = 0 := rfl
@[simp] theorem tree14 : i14.tree = false := rfl
@[simp] theorem ntmps14 : i14.ntmps = 50 := rfl
@[simp] theorem results14 : i14.results = [(ResultVar.tmp 4)] := rfl
@[simp] theorem res14 : i14.res = [[0]] := rfl
def I14_0 (n : Int) (l : (List Rel))  (i : Nat) (fr : Fr) (S : St) : Prop := ∃ f : Nat → AV, ∃ G : St, fr = frOf 50 f ∧ f 0 = .int .i64 n ∧ f 1 = .ts .imm 3 (l.map encRel) ∧ f 15 = .ts .imm 3 (l.map encRel) ∧ f 16 = .int .i64 l.length ∧ f 17 = .int .i64 i ∧ S = G ∧ allB i (relP n l) = true
def R14_0 (n : Int) (l : (List Rel))  (r : Option (Ex × Fr × St)) : Prop := (∃ f : Nat → AV, ∃ G : St, r = some (.ret, frOf 50 f, G) ∧ f 4 = .bool false ∧ allB l.length (relP n l) = false) ∨ (∃ f : Nat → AV, ∃ G : St, r = some (.exit 0, frOf 50 f, G) ∧ allB l.length (relP n l) = true)
theorem L14_0 (n : Int) (l : (List Rel)) (h0 : l.length ≤ 1048576)  (hn : inR n 1 5 = true) : ∀ i fr S, i ≤ l.length → I14_0 n l  i fr S → R14_0 n l  (evCL T 0 (.loop l14_0) fr S) := by
  refine loopQ _ _ _ ?_ ?_
  · rintro i fr S hi ⟨f, G, rfl, t0, t1, t15, t16, t17, rfl, hf⟩
    have hwi : IntKind.i64.wrap ((i : Int) + 1) = (i : Int) + 1 := wrap64 (by omega) (by omega)
    have hile : i ≤ l.length := Nat.le_of_lt hi
    have hmin : min i l.length = i := by omega
    have he := e42 (l.take i) 43 [.tp .imm 3 [[.int .i64 (nth l i).a, .int .i64 (nth l i).b, .int .i64 (nth l i).kind]] 0 0] (relEq (nth l i)) (fun y hy m S => by simp -implicitDefEqProofs [e43]) (by simp; omega) (fun S => by simp)
    have hn1 : 1 ≤ n ∧ n ≤ 5 := by simpa [inR] using hn
    by_cases ht1 : inR (nth l i).b 1 n = true
    · have hb1 : 1 ≤ (nth l i).b ∧ (nth l i).b ≤ n := by simpa [inR] using ht1
      have hwb : IntKind.i64.wrap ((nth l i).b - 1) = (nth l i).b - 1 := wrap64 (by omega) (by omega)
      by_cases ht2 : inR (nth l i).a 0 ((nth l i).b - 1) = true
      · by_cases ht3 : inR (nth l i).kind 1 3 = true
        · cases hany : (l.take i).any (relEq (nth l i))
          · simp -implicitDefEqProofs [r14_0, r14_1, r14_2, r14_3, r14_4, r14_5, r14_6, r14_7, r14_8, r14_9, l14_0, h0, call41, callz41, e41, call42, callz42, e42, call43, callz43, e43, -List.getElem?_map, -getElem?_pos, List.getElem?_cons_zero, map_get, -List.map_take, -List.map_drop, take_map, drop_map, upd_ne, frOf_set, frOf_get, frOf_getD, encRel, t0, t1, t15, t16, t17, hi, hwi, hile, hwb, he, hany, ht1, ht2, ht3]
            refine .go _ _ ⟨_, _, rfl, (by first | rfl | assumption | simp [upd, *]), (by first | rfl | assumption | simp [upd, *]), (by first | rfl | assumption | simp [upd, *]), (by first | rfl | assumption | simp [upd, *]), (by first | rfl | assumption | simp [upd, *]), rfl, ?_⟩; rw [allB_succ, hf, Bool.true_and]; simp only [inR, Bool.and_eq_true, decide_eq_true_eq] at ht2 ht3; simp only [relP, hany, Bool.not_false, Bool.and_true, decide_eq_true_eq]; exact ⟨by omega, by omega, by omega, ht3.1, ht3.2⟩
          · simp -implicitDefEqProofs [r14_0, r14_1, r14_2, r14_3, r14_4, r14_5, r14_6, r14_7, r14_8, r14_9, l14_0, h0, call41, callz41, e41, call42, callz42, e42, call43, callz43, e43, -List.getElem?_map, -getElem?_pos, List.getElem?_cons_zero, map_get, -List.map_take, -List.map_drop, take_map, drop_map, upd_ne, frOf_set, frOf_get, frOf_getD, encRel, t0, t1, t15, t16, t17, hi, hwi, hile, hwb, he, hany, ht1, ht2, ht3]
            refine .ret _ _ (Or.inl ⟨_, _, rfl, (by first | rfl | assumption | simp [upd, *]), ?_⟩); exact allB_no hi (by simp [relP, hany])
        · simp -implicitDefEqProofs [r14_0, r14_1, r14_2, r14_3, r14_4, r14_5, r14_6, r14_7, r14_8, r14_9, l14_0, h0, call41, callz41, e41, call42, callz42, e42, call43, callz43, e43, -List.getElem?_map, -getElem?_pos, List.getElem?_cons_zero, map_get, -List.map_take, -List.map_drop, take_map, drop_map, upd_ne, frOf_set, frOf_get, frOf_getD, encRel, t0, t1, t15, t16, t17, hi, hwi, hwb, ht1, ht2, ht3]
          refine .ret _ _ (Or.inl ⟨_, _, rfl, (by first | rfl | assumption | simp [upd, *]), ?_⟩); exact allB_no hi (by have h9 : ¬ (0 ≤ (nth l i).a ∧ (nth l i).a < (nth l i).b ∧ (nth l i).b ≤ n ∧ 1 ≤ (nth l i).kind ∧ (nth l i).kind ≤ 3) := (by intro h8; simp [inR] at ht3; omega); simp only [relP, h9, decide_false, Bool.false_and])
      · simp -implicitDefEqProofs [r14_0, r14_1, r14_2, r14_3, r14_4, r14_5, r14_6, r14_7, r14_8, r14_9, l14_0, h0, call41, callz41, e41, call42, callz42, e42, call43, callz43, e43, -List.getElem?_map, -getElem?_pos, List.getElem?_cons_zero, map_get, -List.map_take, -List.map_drop, take_map, drop_map, upd_ne, frOf_set, frOf_get, frOf_getD, encRel, t0, t1, t15, t16, t17, hi, hwi, hwb, ht1, ht2]
        refine .ret _ _ (Or.inl ⟨_, _, rfl, (by first | rfl | assumption | simp [upd, *]), ?_⟩); exact allB_no hi (by have h9 : ¬ (0 ≤ (nth l i).a ∧ (nth l i).a < (nth l i).b ∧ (nth l i).b ≤ n ∧ 1 ≤ (nth l i).kind ∧ (nth l i).kind ≤ 3) := (by intro h8; simp [inR] at ht2; omega); simp only [relP, h9, decide_false, Bool.false_and])
    · simp -implicitDefEqProofs [r14_0, r14_1, r14_2, r14_3, r14_4, r14_5, r14_6, r14_7, r14_8, r14_9, l14_0, h0, call41, callz41, e41, call42, callz42, e42, call43, callz43, e43, -List.getElem?_map, -getElem?_pos, List.getElem?_cons_zero, map_get, -List.map_take, -List.map_drop, take_map, drop_map, upd_ne, frOf_set, frOf_get, frOf_getD, encRel, t0, t1, t15, t16, t17, hi, hwi, ht1]
      refine .ret _ _ (Or.inl ⟨_, _, rfl, (by first | rfl | assumption | simp [upd, *]), ?_⟩); exact allB_no hi (by have h9 : ¬ (0 ≤ (nth l i).a ∧ (nth l i).a < (nth l i).b ∧ (nth l i).b ≤ n ∧ 1 ≤ (nth l i).kind ∧ (nth l i).kind ≤ 3) := (by intro h8; simp [inR] at ht1; omega); simp only [relP, h9, decide_false, Bool.false_and])
  · rintro fr S ⟨f, G, rfl, t0, t1, t15, t16, t17, rfl, hf⟩
    simp -implicitDefEqProofs [r14_0, r14_1, r14_2, r14_3, r14_4, r14_5, r14_6, r14_7, r14_8, r14_9, l14_0, h0, call41, callz41, e41, call42, callz42, e42, call43, callz43, e43, -List.getElem?_map, -getElem?_pos, List.getElem?_cons_zero, map_get, -List.map_take, -List.map_drop, take_map, drop_map, upd_ne, frOf_set, frOf_get, frOf_getD, encRel, t0, t1, t15, t16, t17]
    refine .exit _ _ _ (Or.inr ⟨_, _, rfl, ?_⟩)
    first | trivial | assumption | simp [*]
theorem e14 (n : Int) (l : (List Rel)) (h0 : l.length ≤ 1048576) : evFL T 14 [.int .i64 n, .ts .imm 3 (l.map encRel)] [] = some (.bool (relsB n l), []) := by
  rw [evFL_at fn14 (by simp)]
  cases hn : inR n 1 5
  · simp -implicitDefEqProofs [c14, r14_0, r14_1, r14_2, r14_3, r14_4, r14_5, r14_6, r14_7, r14_8, r14_9, h0, call41, callz41, e41, call42, callz42, e42, call43, callz43, e43, -List.getElem?_map, -getElem?_pos, List.getElem?_cons_zero, map_get, -List.map_take, -List.map_drop, take_map, drop_map, upd_ne, frOf_set, frOf_get, frOf_getD, encRel, hn, relsB]
  by_cases hm : (15 : Int) < (l.length : Int)
  · have hm2 : ¬ ((l.length : Int) ≤ 15) := by omega
    simp -implicitDefEqProofs [c14, r14_0, r14_1, r14_2, r14_3, r14_4, r14_5, r14_6, r14_7, r14_8, r14_9, h0, call41, callz41, e41, call42, callz42, e42, call43, callz43, e43, -List.getElem?_map, -getElem?_pos, List.getElem?_cons_zero, map_get, -List.map_take, -List.map_drop, take_map, drop_map, upd_ne, frOf_set, frOf_get, frOf_getD, encRel, hn, hm, hm2, relsB]
  have hm2 : ((l.length : Int) ≤ 15) := by omega
  simp -implicitDefEqProofs [c14, r14_0, r14_1, r14_2, r14_3, r14_4, r14_5, r14_6, r14_7, r14_8, r14_9, h0, call41, callz41, e41, call42, callz42, e42, call43, callz43, e43, -List.getElem?_map, -getElem?_pos, List.getElem?_cons_zero, map_get, -List.map_take, -List.map_drop, take_map, drop_map, upd_ne, frOf_set, frOf_get, frOf_getD, encRel, hn, hm, hm2]
  generalize hr : evCL T 0 (.loop l14_0) _ _ = r
  have h : R14_0 n l  r := by rw [← hr]; exact L14_0 n l h0 hn (0) _ _ (by omega) ⟨_, _, rfl, (by simp [upd, *]), (by simp [upd, *]), (by simp [upd, *]), (by simp [upd, *]), (by simp [upd, *]), rfl, by first | trivial | assumption | simp⟩
  clear hr
  rcases h with h | h
  · obtain ⟨f0, G, rfl, u0_4, hf0⟩ := h
    simp -implicitDefEqProofs [r14_0, r14_1, r14_2, r14_3, r14_4, r14_5, r14_6, r14_7, r14_8, r14_9, h0, call41, callz41, e41, call42, callz42, e42, call43, callz43, e43, -List.getElem?_map, -getElem?_pos, List.getElem?_cons_zero, map_get, -List.map_take, -List.map_drop, take_map, drop_map, upd_ne, frOf_set, frOf_get, frOf_getD, encRel, u0_4, hf0, relsB]
  obtain ⟨f0, G, rfl, hf0⟩ := h
  simp -implicitDefEqProofs [r14_0, r14_1, r14_2, r14_3, r14_4, r14_5, r14_6, r14_7, r14_8, r14_9, h0, call41, callz41, e41, call42, callz42, e42, call43, callz43, e43, -List.getElem?_map, -getElem?_pos, List.getElem?_cons_zero, map_get, -List.map_take, -List.map_drop, take_map, drop_map, upd_ne, frOf_set, frOf_get, frOf_getD, encRel, hf0, relsB, hn, hm2]
-- impl.kindTo
@[simp] theorem call46 {m : Nat} (args : List AV) (S : St) : evCall T m (evFL T) 46 args S = lendC (evFL T 46) S (lendAll S i46.pes args) := evCall0 fn46 rfl rfl args S
@[simp] theorem callz46 (args : List AV) (S : St) : evCallFz T (evFL T) 46 args S = lendZ (evFL T 46) S i46.res (lendAll S i46.pes args) := evCallFz0 fn46 rfl rfl args S
@[simp] theorem pes46 : i46.pes = [[3], [0], [0]] := rfl
@[simp] theorem body46 : i46.body = c46 := rfl
@[simp] theorem kind46 : i46.kind = 0 := rfl
@[simp] theorem tree46 : i46.tree = false := rfl
@[simp] theorem ntmps46 : i46.ntmps = 41 := rfl
@[simp] theorem results46 : i46.results = [(ResultVar.tmp 6)] := rfl
@[simp] theorem res46 : i46.res = [[0]] := rfl
def I46_0 (l : (List Rel)) (a : Int) (b : Int)  (i : Nat) (fr : Fr) (S : St) : Prop := ∃ f : Nat → AV, ∃ G : St, fr = frOf 41 f ∧ f 1 = .int .i64 a ∧ f 2 = .int .i64 b ∧ f 9 = .ts .imm 3 (l.map encRel) ∧ f 10 = .int .i64 l.length ∧ f 11 = .int .i64 i ∧ S = G ∧ kindOf a b (l.drop i) = kindOf a b l
def R46_0 (l : (List Rel)) (a : Int) (b : Int)  (r : Option (Ex × Fr × St)) : Prop := (∃ f : Nat → AV, ∃ G : St, ∃ j : Int, r = some (.ret, frOf 41 f, G) ∧ f 6 = .int .i64 j ∧ kindOf a b l = j) ∨ (∃ f : Nat → AV, ∃ G : St, r = some (.exit 0, frOf 41 f, G) ∧ kindOf a b l = 0)
theorem L46_0 (l : (List Rel)) (a : Int) (b : Int) (h0 : l.length ≤ 1048576)   : ∀ i fr S, i ≤ l.length → I46_0 l a b  i fr S → R46_0 l a b  (evCL T 0 (.loop l46_0) fr S) := by
  refine loopQ _ _ _ ?_ ?_
  · rintro i fr S hi ⟨f, G, rfl, t1, t2, t9, t10, t11, rfl, hf⟩
    have hwi : IntKind.i64.wrap ((i : Int) + 1) = (i : Int) + 1 := wrap64 (by omega) (by omega)
    rw [drop_nth hi] at hf
    rcases hx : nth l i with ⟨xa, xb, xk⟩
    by_cases ht1 : a = b
    · subst ht1
      by_cases ht2 : xa = a
      · by_cases ht3 : xb = a
        · simp -implicitDefEqProofs [r46_0, r46_1, r46_2, r46_3, r46_4, r46_5, r46_6, r46_7, r46_8, r46_9, l46_0, h0, -List.getElem?_map, -getElem?_pos, List.getElem?_cons_zero, map_get, -List.map_take, -List.map_drop, take_map, drop_map, upd_ne, frOf_set, frOf_get, frOf_getD, encRel, t1, t2, t9, t10, t11, hi, hwi, hx, ht2, ht3]
          refine .ret _ _ (Or.inl ⟨_, _, _, rfl, (by first | rfl | assumption | simp [upd, *]), ?_⟩); simp [kindOf, hx, ht2, ht3] at hf; exact hf.symm
        · simp -implicitDefEqProofs [r46_0, r46_1, r46_2, r46_3, r46_4, r46_5, r46_6, r46_7, r46_8, r46_9, l46_0, h0, -List.getElem?_map, -getElem?_pos, List.getElem?_cons_zero, map_get, -List.map_take, -List.map_drop, take_map, drop_map, upd_ne, frOf_set, frOf_get, frOf_getD, encRel, t1, t2, t9, t10, t11, hi, hwi, hx, ht2, ht3]
          refine .go _ _ ⟨_, _, rfl, (by first | rfl | assumption | simp [upd, *]), (by first | rfl | assumption | simp [upd, *]), (by first | rfl | assumption | simp [upd, *]), (by first | rfl | assumption | simp [upd, *]), (by first | rfl | assumption | simp [upd, *]), rfl, ?_⟩; simp [kindOf, hx, ht2, ht3] at hf; exact hf
      · simp -implicitDefEqProofs [r46_0, r46_1, r46_2, r46_3, r46_4, r46_5, r46_6, r46_7, r46_8, r46_9, l46_0, h0, -List.getElem?_map, -getElem?_pos, List.getElem?_cons_zero, map_get, -List.map_take, -List.map_drop, take_map, drop_map, upd_ne, frOf_set, frOf_get, frOf_getD, encRel, t1, t2, t9, t10, t11, hi, hwi, hx, ht2]
        refine .go _ _ ⟨_, _, rfl, (by first | rfl | assumption | simp [upd, *]), (by first | rfl | assumption | simp [upd, *]), (by first | rfl | assumption | simp [upd, *]), (by first | rfl | assumption | simp [upd, *]), (by first | rfl | assumption | simp [upd, *]), rfl, ?_⟩; simp [kindOf, hx, ht2] at hf; exact hf
    · by_cases ht4 : xa = a
      · subst ht4
        by_cases ht5 : xb = b
        · subst ht5
          simp -implicitDefEqProofs [r46_0, r46_1, r46_2, r46_3, r46_4, r46_5, r46_6, r46_7, r46_8, r46_9, l46_0, h0, -List.getElem?_map, -getElem?_pos, List.getElem?_cons_zero, map_get, -List.map_take, -List.map_drop, take_map, drop_map, upd_ne, frOf_set, frOf_get, frOf_getD, encRel, t1, t2, t9, t10, t11, hi, hwi, hx, ht1]
          refine .ret _ _ (Or.inl ⟨_, _, _, rfl, (by first | rfl | assumption | simp [upd, *]), ?_⟩); simp [kindOf, hx, ht1] at hf; exact hf.symm
        · simp -implicitDefEqProofs [r46_0, r46_1, r46_2, r46_3, r46_4, r46_5, r46_6, r46_7, r46_8, r46_9, l46_0, h0, -List.getElem?_map, -getElem?_pos, List.getElem?_cons_zero, map_get, -List.map_take, -List.map_drop, take_map, drop_map, upd_ne, frOf_set, frOf_get, frOf_getD, encRel, t1, t2, t9, t10, t11, hi, hwi, hx, ht1, ht5]
          refine .go _ _ ⟨_, _, rfl, (by first | rfl | assumption | simp [upd, *]), (by first | rfl | assumption | simp [upd, *]), (by first | rfl | assumption | simp [upd, *]), (by first | rfl | assumption | simp [upd, *]), (by first | rfl | assumption | simp [upd, *]), rfl, ?_⟩; simp [kindOf, hx, ht1, ht5] at hf; exact hf
      · by_cases ht6 : xa = b
        · subst ht6
          by_cases ht7 : xb = a
          · simp -implicitDefEqProofs [r46_0, r46_1, r46_2, r46_3, r46_4, r46_5, r46_6, r46_7, r46_8, r46_9, l46_0, h0, -List.getElem?_map, -getElem?_pos, List.getElem?_cons_zero, map_get, -List.map_take, -List.map_drop, take_map, drop_map, upd_ne, frOf_set, frOf_get, frOf_getD, encRel, t1, t2, t9, t10, t11, hi, hwi, hx, ht1, ht4, ht7]
            refine .ret _ _ (Or.inl ⟨_, _, _, rfl, (by first | rfl | assumption | simp [upd, *]), ?_⟩); simp [kindOf, hx, ht1, ht4, ht7] at hf; exact hf.symm
          · simp -implicitDefEqProofs [r46_0, r46_1, r46_2, r46_3, r46_4, r46_5, r46_6, r46_7, r46_8, r46_9, l46_0, h0, -List.getElem?_map, -getElem?_pos, List.getElem?_cons_zero, map_get, -List.map_take, -List.map_drop, take_map, drop_map, upd_ne, frOf_set, frOf_get, frOf_getD, encRel, t1, t2, t9, t10, t11, hi, hwi, hx, ht1, ht4, ht7]
            refine .go _ _ ⟨_, _, rfl, (by first | rfl | assumption | simp [upd, *]), (by first | rfl | assumption | simp [upd, *]), (by first | rfl | assumption | simp [upd, *]), (by first | rfl | assumption | simp [upd, *]), (by first | rfl | assumption | simp [upd, *]), rfl, ?_⟩; simp [kindOf, hx, ht1, ht4, ht7] at hf; exact hf
        · simp -implicitDefEqProofs [r46_0, r46_1, r46_2, r46_3, r46_4, r46_5, r46_6, r46_7, r46_8, r46_9, l46_0, h0, -List.getElem?_map, -getElem?_pos, List.getElem?_cons_zero, map_get, -List.map_take, -List.map_drop, take_map, drop_map, upd_ne, frOf_set, frOf_get, frOf_getD, encRel, t1, t2, t9, t10, t11, hi, hwi, hx, ht1, ht4, ht6]
          refine .go _ _ ⟨_, _, rfl, (by first | rfl | assumption | simp [upd, *]), (by first | rfl | assumption | simp [upd, *]), (by first | rfl | assumption | simp [upd, *]), (by first | rfl | assumption | simp [upd, *]), (by first | rfl | assumption | simp [upd, *]), rfl, ?_⟩; simp [kindOf, hx, ht1, ht4, ht6] at hf; exact hf
  · rintro fr S ⟨f, G, rfl, t1, t2, t9, t10, t11, rfl, hf⟩
    simp -implicitDefEqProofs [r46_0, r46_1, r46_2, r46_3, r46_4, r46_5, r46_6, r46_7, r46_8, r46_9, l46_0, h0, -List.getElem?_map, -getElem?_pos, List.getElem?_cons_zero, map_get, -List.map_take, -List.map_drop, take_map, drop_map, upd_ne, frOf_set, frOf_get, frOf_getD, encRel, t1, t2, t9, t10, t11]
    refine .exit _ _ _ (Or.inr ⟨_, _, rfl, ?_⟩)
    simpa [kindOf] using hf.symm
theorem e46 (l : (List Rel)) (a : Int) (b : Int) (h0 : l.length ≤ 1048576) : evFL T 46 [.ts .imm 3 (l.map encRel), .int .i64 a, .int .i64 b] [] = some (.int .i64 (kindOf a b l), []) := by
  rw [evFL_at fn46 (by simp)]
  simp -implicitDefEqProofs [c46, r46_0, r46_1, r46_2, r46_3, r46_4, r46_5, r46_6, r46_7, r46_8, r46_9, h0, -List.getElem?_map, -getElem?_pos, List.getElem?_cons_zero, map_get, -List.map_take, -List.map_drop, take_map, drop_map, upd_ne, frOf_set, frOf_get, frOf_getD, encRel]
  generalize hr : evCL T 0 (.loop l46_0) _ _ = r
  have h : R46_0 l a b  r := by rw [← hr]; exact L46_0 l a b h0  (0) _ _ (by omega) ⟨_, _, rfl, (by simp [upd, *]), (by simp [upd, *]), (by simp [upd, *]), (by simp [upd, *]), (by simp [upd, *]), rfl, by simp⟩
  clear hr
  rcases h with h | h
  · obtain ⟨f0, G, j, rfl, u0_6, hf0⟩ := h
    simp -implicitDefEqProofs [r46_0, r46_1, r46_2, r46_3, r46_4, r46_5, r46_6, r46_7, r46_8, r46_9, h0, -List.getElem?_map, -getElem?_pos, List.getElem?_cons_zero, map_get, -List.map_take, -List.map_drop, take_map, drop_map, upd_ne, frOf_set, frOf_get, frOf_getD, encRel, u0_6, hf0] <;> try omega
  obtain ⟨f0, G, rfl, hf0⟩ := h
  simp -implicitDefEqProofs [r46_0, r46_1, r46_2, r46_3, r46_4, r46_5, r46_6, r46_7, r46_8, r46_9, h0, -List.getElem?_map, -getElem?_pos, List.getElem?_cons_zero, map_get, -List.map_take, -List.map_drop, take_map, drop_map, upd_ne, frOf_set, frOf_get, frOf_getD, encRel, hf0] <;> try omega
-- slices.Index[[]int,int]
@[simp] theorem call72 {m : Nat} (args : List AV) (S : St) : evCall T m (evFL T) 72 args S = lendC (evFL T 72) S (lendAll S i72.pes args) := evCall0 fn72 rfl rfl args S
@[simp] theorem callz72 (args : List AV) (S : St) : evCallFz T (evFL T) 72 args S = lendZ (evFL T 72) S i72.res (lendAll S i72.pes args) := evCallFz0 fn72 rfl rfl args S
@[simp] theorem pes72 : i72.pes = [[1], [0]] := rfl
@[simp] theorem body72 : i72.body = c72 := rfl
@[simp] theorem kind72 : i72.kind = 0 := rfl
@[simp] theorem tree72 : i72.tree = false := rfl
@[simp] theorem ntmps72 : i72.ntmps = 19 := rfl
@[simp] theorem results72 : i72.results = [(ResultVar.tmp 4)] := rfl
@[simp] theorem res72 : i72.res = [[0]] := rfl
def I72_0 (a : (List Int)) (v : Int)  (i : Nat) (fr : Fr) (S : St) : Prop := ∃ f : Nat → AV, fr = frOf 19 f ∧ f 0 = .ts .imm 1 (a.map encInt) ∧ f 1 = .int .i64 v ∧ f 7 = .int .i64 a.length ∧ f 8 = .int .i64 i ∧ S = [] ∧ ∀ j, j < i → decide (v = nth a j) = false
def R72_0 (a : (List Int)) (v : Int)  (r : Option (Ex × Fr × St)) : Prop := (∃ f : Nat → AV, ∃ j : Int, r = some (.ret, frOf 19 f, []) ∧ f 4 = .int .i64 j ∧ idxF (fun x => decide (v = x)) a = j) ∨ (∃ f : Nat → AV, r = some (.exit 0, frOf 19 f, []) ∧ idxF (fun x => decide (v = x)) a = -1)
theorem L72_0 (a : (List Int)) (v : Int) (h0 : a.length ≤ 1048576)   : ∀ i fr S, i ≤ a.length → I72_0 a v  i fr S → R72_0 a v  (evCL T 0 (.loop l72_0) fr S) := by
  refine loopQ _ _ _ ?_ ?_
  · rintro i fr S hi ⟨f, rfl, t0, t1, t7, t8, rfl, hf⟩
    have hwi : IntKind.i64.wrap ((i : Int) + 1) = (i : Int) + 1 := wrap64 (by omega) (by omega)
    by_cases ht1 : v = nth a i
    · subst ht1
      simp -implicitDefEqProofs [r72_0, r72_1, r72_2, r72_3, r72_4, r72_5, r72_6, r72_7, l72_0, h0, -List.getElem?_map, -getElem?_pos, List.getElem?_cons_zero, map_get, -List.map_take, -List.map_drop, take_map, drop_map, upd_ne, frOf_set, frOf_get, frOf_getD, encInt, t0, t1, t7, t8, hi, hwi]
      refine .ret _ _ (Or.inl ⟨_, _, rfl, (by first | rfl | assumption | simp [upd, *]), ?_⟩); exact idxF_hit hi hf (by simp)
    · simp -implicitDefEqProofs [r72_0, r72_1, r72_2, r72_3, r72_4, r72_5, r72_6, r72_7, l72_0, h0, -List.getElem?_map, -getElem?_pos, List.getElem?_cons_zero, map_get, -List.map_take, -List.map_drop, take_map, drop_map, upd_ne, frOf_set, frOf_get, frOf_getD, encInt, t0, t1, t7, t8, hi, hwi, ht1]
      refine .go _ _ ⟨_, rfl, (by first | rfl | assumption | simp [upd, *]), (by first | rfl | assumption | simp [upd, *]), (by first | rfl | assumption | simp [upd, *]), (by first | rfl | assumption | simp [upd, *]), rfl, ?_⟩; exact none_succ hf (by simp [ht1])
  · rintro fr S ⟨f, rfl, t0, t1, t7, t8, rfl, hf⟩
    simp -implicitDefEqProofs [r72_0, r72_1, r72_2, r72_3, r72_4, r72_5, r72_6, r72_7, l72_0, h0, -List.getElem?_map, -getElem?_pos, List.getElem?_cons_zero, map_get, -List.map_take, -List.map_drop, take_map, drop_map, upd_ne, frOf_set, frOf_get, frOf_getD, encInt, t0, t1, t7, t8]
    refine .exit _ _ _ (Or.inr ⟨_, rfl, ?_⟩)
    exact idxF_miss hf
theorem e72 (a : (List Int)) (v : Int) (h0 : a.length ≤ 1048576) : evFL T 72 [.ts .imm 1 (a.map encInt), .int .i64 v] [] = some (.int .i64 (idxF (fun x => decide (v = x)) a), []) := by
  rw [evFL_at fn72 (by simp)]
  simp -implicitDefEqProofs [c72, r72_0, r72_1, r72_2, r72_3, r72_4, r72_5, r72_6, r72_7, h0, -List.getElem?_map, -getElem?_pos, List.getElem?_cons_zero, map_get, -List.map_take, -List.map_drop, take_map, drop_map, upd_ne, frOf_set, frOf_get, frOf_getD, encInt]
  generalize hr : evCL T 0 (.loop l72_0) _ _ = r
  have h : R72_0 a v  r := by rw [← hr]; exact L72_0 a v h0  (0) _ _ (by omega) ⟨_, rfl, (by simp [upd, *]), (by simp [upd, *]), (by simp [upd, *]), (by simp [upd, *]), rfl, by simp⟩
  clear hr
  rcases h with h | h
  · obtain ⟨f0, j, rfl, u0_4, hf0⟩ := h
    simp -implicitDefEqProofs [r72_0, r72_1, r72_2, r72_3, r72_4, r72_5, r72_6, r72_7, h0, -List.getElem?_map, -getElem?_pos, List.getElem?_cons_zero, map_get, -List.map_take, -List.map_drop, take_map, drop_map, upd_ne, frOf_set, frOf_get, frOf_getD, encInt, u0_4, hf0] <;> try omega
  obtain ⟨f0, rfl, hf0⟩ := h
  simp -implicitDefEqProofs [r72_0, r72_1, r72_2, r72_3, r72_4, r72_5, r72_6, r72_7, h0, -List.getElem?_map, -getElem?_pos, List.getElem?_cons_zero, map_get, -List.map_take, -List.map_drop, take_map, drop_map, upd_ne, frOf_set, frOf_get, frOf_getD, encInt, hf0] <;> try omega
-- slices.Contains[[]int,int]
@[simp] theorem call55 {m : Nat} (args : List AV) (S : St) : evCall T m (evFL T) 55 args S = lendC (evFL T 55) S (lendAll S i55.pes args) := evCall0 fn55 rfl rfl args S
@[simp] theorem callz55 (args : List AV) (S : St) : evCallFz T (evFL T) 55 args S = lendZ (evFL T 55) S i55.res (lendAll S i55.pes args) := evCallFz0 fn55 rfl rfl args S
@[simp] theorem pes55 : i55.pes = [[1], [0]] := rfl
@[simp] theorem body55 : i55.body = c55 := rfl
@[simp] theorem kind55 : i55.kind = 0 := rfl
@[simp] theorem tree55 : i55.tree = false := rfl
@[simp] theorem ntmps55 : i55.ntmps = 9 := rfl
@[simp] theorem results55 : i55.results = [(ResultVar.tmp 4)] := rfl
@[simp] theorem res55 : i55.res = [[0]] := rfl
theorem e55 (a : (List Int)) (v : Int) (h0 : a.length ≤ 1048576) : evFL T 55 [.ts .imm 1 (a.map encInt), .int .i64 v] [] = some (.bool (hasI a v), []) := by
  rw [evFL_at fn55 (by simp)]
  all_goals simp -implicitDefEqProofs [c55, r55_0, r55_1, h0, call72, callz72, e72, -List.getElem?_map, -getElem?_pos, List.getElem?_cons_zero, map_get, -List.map_take, -List.map_drop, take_map, drop_map, upd_ne, frOf_set, frOf_get, frOf_getD, idxF_any, hasI_comm]
-- impl.isValleyFree
@[simp] theorem call56 {m : Nat} (args : List AV) (S : St) : evCall T m (evFL T) 56 args S = lendC (evFL T 56) S (lendAll S i56.pes args) := evCall0 fn56 rfl rfl args S
@[simp] theorem callz56 (args : List AV) (S : St) : evCallFz T (evFL T) 56 args S = lendZ (evFL T 56) S i56.res (lendAll S i56.pes args) := evCallFz0 fn56 rfl rfl args S
@[simp] theorem pes56 : i56.pes = [[3], [1]] := rfl
@[simp] theorem body56 : i56.body = c56 := rfl
@[simp] theorem kind56 : i56.kind = 0 := rfl
@[simp] theorem tree56 : i56.tree = false := rfl
@[simp] theorem ntmps56 : i56.ntmps = 39 := rfl
@[simp] theorem results56 : i56.results = [(ResultVar.tmp 4)] := rfl
@[simp] theorem res56 : i56.res = [[0]] := rfl
def I56_0 (l : (List Rel)) (p : (List Int))  (i : Nat) (fr : Fr) (S : St) : Prop := ∃ f : Nat → AV, ∃ d : Bool, fr = frOf 39 f ∧ f 0 = .ts .imm 3 (l.map encRel) ∧ f 1 = .ts .imm 1 (p.map encInt) ∧ f 5 = .bool d ∧ f 6 = .int .i64 ((i : Int) + 1) ∧ S = [] ∧ freeZ d ((kinds l p).drop i) = freeZ false (kinds l p)
def R56_0 (l : (List Rel)) (p : (List Int))  (r : Option (Ex × Fr × St)) : Prop := (∃ f : Nat → AV, r = some (.ret, frOf 39 f, []) ∧ f 4 = .bool false ∧ freeZ false (kinds l p) = false) ∨ (∃ f : Nat → AV, r = some (.exit 0, frOf 39 f, []) ∧ freeZ false (kinds l p) = true)
theorem L56_0 (l : (List Rel)) (p : (List Int)) (h0 : l.length ≤ 1048576) (h1 : p.length ≤ 1048576)   : ∀ i fr S, i ≤ p.length - 1 → I56_0 l p  i fr S → R56_0 l p  (evCL T 0 (.loop l56_0) fr S) := by
  refine loopQ _ _ _ ?_ ?_
  · rintro i fr S hi ⟨f, d, rfl, t0, t1, t5, t6, rfl, hf⟩
    have hwi : IntKind.i64.wrap ((i : Int) + 1) = (i : Int) + 1 := wrap64 (by omega) (by omega)
    have hi0 : i + 1 < p.length := by omega
    have hi2 : i < p.length := by omega
    have hs : (i : Int) + 1 < (p.length : Int) := by omega
    have hz : (0 : Int) ≤ (i : Int) + 1 := by omega
    have hw0 : IntKind.i64.wrap (i : Int) = (i : Int) := wrap64 (by omega) (by omega)
    have hw1 : IntKind.i64.wrap ((i : Int) + 1 + 1) = (i : Int) + 1 + 1 := wrap64 (by omega) (by omega)
    rw [drop_nth (by rw [kinds_length]; exact hi), kinds_nth hi] at hf
    simp only [freeZ] at hf
    by_cases ht1 : kindOf (nth p i) (nth p (i + 1)) l = 0
    · simp -implicitDefEqProofs [r56_0, r56_1, r56_2, r56_3, r56_4, r56_5, r56_6, r56_7, r56_8, r56_9, l56_0, h0, h1, call46, callz46, e46, -List.getElem?_map, -getElem?_pos, List.getElem?_cons_zero, map_get, -List.map_take, -List.map_drop, take_map, drop_map, upd_ne, frOf_set, frOf_get, frOf_getD, encInt, t0, t1, t5, t6, hi0, hi2, hs, hz, hw0, hw1, ht1]
      refine .ret _ _ (Or.inl ⟨_, rfl, (by first | rfl | assumption | simp [upd, *]), ?_⟩); simp [freeZ, ht1] at hf; first | exact hf | exact hf.symm
    · by_cases ht2 : d = true
      · by_cases ht3 : kindOf (nth p i) (nth p (i + 1)) l = 1
        · simp -implicitDefEqProofs [r56_0, r56_1, r56_2, r56_3, r56_4, r56_5, r56_6, r56_7, r56_8, r56_9, l56_0, h0, h1, call46, callz46, e46, -List.getElem?_map, -getElem?_pos, List.getElem?_cons_zero, map_get, -List.map_take, -List.map_drop, take_map, drop_map, upd_ne, frOf_set, frOf_get, frOf_getD, encInt, t0, t1, t5, t6, hi0, hi2, hs, hz, hw0, hw1, ht1, ht2, ht3]
          refine .go _ _ ⟨_, _, rfl, (by first | rfl | assumption | simp [upd, *]), (by first | rfl | assumption | simp [upd, *]), (by first | rfl | assumption | simp [upd, *]), (by first | rfl | assumption | simp [upd, *]), rfl, ?_⟩; simp [freeZ, ht1, ht2, ht3] at hf; exact hf
        · simp -implicitDefEqProofs [r56_0, r56_1, r56_2, r56_3, r56_4, r56_5, r56_6, r56_7, r56_8, r56_9, l56_0, h0, h1, call46, callz46, e46, -List.getElem?_map, -getElem?_pos, List.getElem?_cons_zero, map_get, -List.map_take, -List.map_drop, take_map, drop_map, upd_ne, frOf_set, frOf_get, frOf_getD, encInt, t0, t1, t5, t6, hi0, hi2, hs, hz, hw0, hw1, ht1, ht2, ht3]
          refine .ret _ _ (Or.inl ⟨_, rfl, (by first | rfl | assumption | simp [upd, *]), ?_⟩); simp [freeZ, ht1, ht2, ht3] at hf; first | exact hf | exact hf.symm
      · by_cases ht4 : kindOf (nth p i) (nth p (i + 1)) l = 3
        · simp -implicitDefEqProofs [r56_0, r56_1, r56_2, r56_3, r56_4, r56_5, r56_6, r56_7, r56_8, r56_9, l56_0, h0, h1, call46, callz46, e46, -List.getElem?_map, -getElem?_pos, List.getElem?_cons_zero, map_get, -List.map_take, -List.map_drop, take_map, drop_map, upd_ne, frOf_set, frOf_get, frOf_getD, encInt, t0, t1, t5, t6, hi0, hi2, hs, hz, hw0, hw1, ht1, ht2, ht4]
          refine .go _ _ ⟨_, _, rfl, (by first | rfl | assumption | simp [upd, *]), (by first | rfl | assumption | simp [upd, *]), (by first | rfl | assumption | simp [upd, *]), (by first | rfl | assumption | simp [upd, *]), rfl, ?_⟩; simp [freeZ, ht1, ht2, ht4] at hf; exact hf
        · simp -implicitDefEqProofs [r56_0, r56_1, r56_2, r56_3, r56_4, r56_5, r56_6, r56_7, r56_8, r56_9, l56_0, h0, h1, call46, callz46, e46, -List.getElem?_map, -getElem?_pos, List.getElem?_cons_zero, map_get, -List.map_take, -List.map_drop, take_map, drop_map, upd_ne, frOf_set, frOf_get, frOf_getD, encInt, t0, t1, t5, t6, hi0, hi2, hs, hz, hw0, hw1, ht1, ht2, ht4]
          refine .go _ _ ⟨_, _, rfl, (by first | rfl | assumption | simp [upd, *]), (by first | rfl | assumption | simp [upd, *]), (by first | rfl | assumption | simp [upd, *]), (by first | rfl | assumption | simp [upd, *]), rfl, ?_⟩; simp [freeZ, ht1, ht2, ht4] at hf; exact hf
  · rintro fr S ⟨f, d, rfl, t0, t1, t5, t6, rfl, hf⟩
    have hst : ¬ (((p.length - 1 : Nat) : Int) + 1 < (p.length : Int)) := by omega
    simp -implicitDefEqProofs [r56_0, r56_1, r56_2, r56_3, r56_4, r56_5, r56_6, r56_7, r56_8, r56_9, l56_0, h0, h1, call46, callz46, e46, -List.getElem?_map, -getElem?_pos, List.getElem?_cons_zero, map_get, -List.map_take, -List.map_drop, take_map, drop_map, upd_ne, frOf_set, frOf_get, frOf_getD, encInt, t0, t1, t5, t6, hst]
    refine .exit _ _ _ (Or.inr ⟨_, rfl, ?_⟩)
    rw [List.drop_eq_nil_of_le (by rw [kinds_length]; exact Nat.le_refl _)] at hf; simpa [freeZ] using hf.symm
theorem e56 (l : (List Rel)) (p : (List Int)) (h0 : l.length ≤ 1048576) (h1 : p.length ≤ 1048576) : evFL T 56 [.ts .imm 3 (l.map encRel), .ts .imm 1 (p.map encInt)] [] = some (.bool (freeZ false (kinds l p)), []) := by
  rw [evFL_at fn56 (by simp)]
  simp -implicitDefEqProofs [c56, r56_0, r56_1, r56_2, r56_3, r56_4, r56_5, r56_6, r56_7, r56_8, r56_9, h0, h1, call46, callz46, e46, -List.getElem?_map, -getElem?_pos, List.getElem?_cons_zero, map_get, -List.map_take, -List.map_drop, take_map, drop_map, upd_ne, frOf_set, frOf_get, frOf_getD, encInt]
  generalize hr : evCL T 0 (.loop l56_0) _ _ = r
  have h : R56_0 l p  r := by rw [← hr]; exact L56_0 l p h0 h1  (0) _ _ (by omega) ⟨_, (false), rfl, (by simp [upd, *]), (by simp [upd, *]), (by simp [upd, *]), (by simp [upd, *]), rfl, by simp⟩
  clear hr
  rcases h with h | h
  · obtain ⟨f0, rfl, u0_4, hf0⟩ := h
    simp -implicitDefEqProofs [r56_0, r56_1, r56_2, r56_3, r56_4, r56_5, r56_6, r56_7, r56_8, r56_9, h0, h1, call46, callz46, e46, -List.getElem?_map, -getElem?_pos, List.getElem?_cons_zero, map_get, -List.map_take, -List.map_drop, take_map, drop_map, upd_ne, frOf_set, frOf_get, frOf_getD, encInt, u0_4, hf0] <;> try omega
  obtain ⟨f0, rfl, hf0⟩ := h
  simp -implicitDefEqProofs [r56_0, r56_1, r56_2, r56_3, r56_4, r56_5, r56_6, r56_7, r56_8, r56_9, h0, h1, call46, callz46, e46, -List.getElem?_map, -getElem?_pos, List.getElem?_cons_zero, map_get, -List.map_take, -List.map_drop, take_map, drop_map, upd_ne, frOf_set, frOf_get, frOf_getD, encInt, hf0] <;> try omega
-- impl.IsValleyFree
@[simp] theorem call24 {m : Nat} (args : List AV) (S : St) : evCall T m (evFL T) 24 args S = lendC (evFL T 24) S (lendAll S i24.pes args) := evCall0 fn24 rfl rfl args S
@[simp] theorem callz24 (args : List AV) (S : St) : evCallFz T (evFL T) 24 args S = lendZ (evFL T 24) S i24.res (lendAll S i24.pes args) := evCallFz0 fn24 rfl rfl args S
@[simp] theorem pes24 : i24.pes = [[0], [3], [1]] := rfl
@[simp] theorem body24 : i24.body = c24 := rfl
@[simp] theorem kind24 : i24.kind = 0 := rfl
@[simp] theorem tree24 : i24.tree = false := rfl
@[simp] theorem ntmps24 : i24.ntmps = 57 := rfl
@[simp] theorem results24 : i24.results = [(ResultVar.tmp 6), (ResultVar.tmp 7)] := rfl
@[simp] theorem res24 : i24.res = [[0], [0]] := rfl
def I24_0 (n : Int) (l : (List Rel)) (p : (List Int))  (i : Nat) (fr : Fr) (S : St) : Prop := ∃ f : Nat → AV, fr = frOf 57 f ∧ f 0 = .int .i64 n ∧ f 1 = .ts .imm 3 (l.map encRel) ∧ f 2 = .ts .imm 1 (p.map encInt) ∧ f 20 = .ts .imm 1 (p.map encInt) ∧ f 21 = .int .i64 p.length ∧ f 22 = .int .i64 i ∧ S = [] ∧ allB i (stepP n l p) = true
def R24_0 (n : Int) (l : (List Rel)) (p : (List Int))  (r : Option (Ex × Fr × St)) : Prop := (∃ f : Nat → AV, r = some (.ret, frOf 57 f, []) ∧ f 6 = .bool false ∧ f 7 = .bool false ∧ allB p.length (stepP n l p) = false) ∨ (∃ f : Nat → AV, r = some (.exit 0, frOf 57 f, []) ∧ f 1 = .ts .imm 3 (l.map encRel) ∧ f 2 = .ts .imm 1 (p.map encInt) ∧ allB p.length (stepP n l p) = true)
theorem L24_0 (n : Int) (l : (List Rel)) (p : (List Int)) (h0 : l.length ≤ 1048576) (h1 : p.length ≤ 1048576)   : ∀ i fr S, i ≤ p.length → I24_0 n l p  i fr S → R24_0 n l p  (evCL T 0 (.loop l24_0) fr S) := by
  refine loopQ _ _ _ ?_ ?_
  · rintro i fr S hi ⟨f, rfl, t0, t1, t2, t20, t21, t22, rfl, hf⟩
    have hwi : IntKind.i64.wrap ((i : Int) + 1) = (i : Int) + 1 := wrap64 (by omega) (by omega)
    have hile : i ≤ p.length := Nat.le_of_lt hi
    have hmin : min i p.length = i := by omega
    have hib : i ≤ 1048576 := by omega
    by_cases ht1 : inR (nth p i) 0 n = true
    · by_cases ht2 : hasI (p.take i) (nth p i) = true
      · simp -implicitDefEqProofs [r24_0, r24_1, r24_2, r24_3, r24_4, r24_5, r24_6, r24_7, r24_8, r24_9, l24_0, h0, h1, call14, callz14, e14, call41, callz41, e41, call46, callz46, e46, call55, callz55, e55, call56, callz56, e56, -List.getElem?_map, -getElem?_pos, List.getElem?_cons_zero, map_get, -List.map_take, -List.map_drop, take_map, drop_map, upd_ne, frOf_set, frOf_get, frOf_getD, encInt, t0, t1, t2, t20, t21, t22, hi, hwi, hile, hmin, hib, ht1, ht2]
        refine .ret _ _ (Or.inl ⟨_, rfl, (by first | rfl | assumption | simp [upd, *]), (by first | rfl | assumption | simp [upd, *]), ?_⟩); exact allB_no hi (by simp [stepP, ht2])
      · by_cases ht3 : 0 < i
        · have hwp : IntKind.i64.wrap ((i : Int) - 1) = ((i - 1 : Nat) : Int) := by rw [wrap64 (by omega) (by omega)]; omega
          have hpi : i - 1 < p.length := by omega
          by_cases ht4 : kindOf (nth p (i - 1)) (nth p i) l = 0
          · simp -implicitDefEqProofs [r24_0, r24_1, r24_2, r24_3, r24_4, r24_5, r24_6, r24_7, r24_8, r24_9, l24_0, h0, h1, call14, callz14, e14, call41, callz41, e41, call46, callz46, e46, call55, callz55, e55, call56, callz56, e56, -List.getElem?_map, -getElem?_pos, List.getElem?_cons_zero, map_get, -List.map_take, -List.map_drop, take_map, drop_map, upd_ne, frOf_set, frOf_get, frOf_getD, encInt, t0, t1, t2, t20, t21, t22, hi, hwi, hile, hmin, hib, hwp, hpi, ht1, ht2, ht3, ht4]
            refine .ret _ _ (Or.inl ⟨_, rfl, (by first | rfl | assumption | simp [upd, *]), (by first | rfl | assumption | simp [upd, *]), ?_⟩); exact allB_no hi (by simp [stepP, ht3, ht4])
          · simp -implicitDefEqProofs [r24_0, r24_1, r24_2, r24_3, r24_4, r24_5, r24_6, r24_7, r24_8, r24_9, l24_0, h0, h1, call14, callz14, e14, call41, callz41, e41, call46, callz46, e46, call55, callz55, e55, call56, callz56, e56, -List.getElem?_map, -getElem?_pos, List.getElem?_cons_zero, map_get, -List.map_take, -List.map_drop, take_map, drop_map, upd_ne, frOf_set, frOf_get, frOf_getD, encInt, t0, t1, t2, t20, t21, t22, hi, hwi, hile, hmin, hib, hwp, hpi, ht1, ht2, ht3, ht4]
            refine .go _ _ ⟨_, rfl, (by first | rfl | assumption | simp [upd, *]), (by first | rfl | assumption | simp [upd, *]), (by first | rfl | assumption | simp [upd, *]), (by first | rfl | assumption | simp [upd, *]), (by first | rfl | assumption | simp [upd, *]), (by first | rfl | assumption | simp [upd, *]), rfl, ?_⟩; rw [allB_succ, hf]; simp [stepP, ht1, ht2, ht3, ht4]; simp [inR] at ht1; omega
        · simp -implicitDefEqProofs [r24_0, r24_1, r24_2, r24_3, r24_4, r24_5, r24_6, r24_7, r24_8, r24_9, l24_0, h0, h1, call14, callz14, e14, call41, callz41, e41, call46, callz46, e46, call55, callz55, e55, call56, callz56, e56, -List.getElem?_map, -getElem?_pos, List.getElem?_cons_zero, map_get, -List.map_take, -List.map_drop, take_map, drop_map, upd_ne, frOf_set, frOf_get, frOf_getD, encInt, t0, t1, t2, t20, t21, t22, hi, hwi, hile, hmin, hib, ht1, ht2, ht3]
          refine .go _ _ ⟨_, rfl, (by first | rfl | assumption | simp [upd, *]), (by first | rfl | assumption | simp [upd, *]), (by first | rfl | assumption | simp [upd, *]), (by first | rfl | assumption | simp [upd, *]), (by first | rfl | assumption | simp [upd, *]), (by first | rfl | assumption | simp [upd, *]), rfl, ?_⟩; rw [allB_succ, hf]; simp [stepP, ht1, ht2, ht3]; simp [inR] at ht1; omega
    · simp -implicitDefEqProofs [r24_0, r24_1, r24_2, r24_3, r24_4, r24_5, r24_6, r24_7, r24_8, r24_9, l24_0, h0, h1, call14, callz14, e14, call41, callz41, e41, call46, callz46, e46, call55, callz55, e55, call56, callz56, e56, -List.getElem?_map, -getElem?_pos, List.getElem?_cons_zero, map_get, -List.map_take, -List.map_drop, take_map, drop_map, upd_ne, frOf_set, frOf_get, frOf_getD, encInt, t0, t1, t2, t20, t21, t22, hi, hwi, ht1]
      refine .ret _ _ (Or.inl ⟨_, rfl, (by first | rfl | assumption | simp [upd, *]), (by first | rfl | assumption | simp [upd, *]), ?_⟩); exact allB_no hi (by have h9 : ¬ (0 ≤ nth p i ∧ nth p i ≤ n) := (by intro h8; simp [inR] at ht1; omega); simp only [stepP, h9, decide_false, Bool.false_and])
  · rintro fr S ⟨f, rfl, t0, t1, t2, t20, t21, t22, rfl, hf⟩
    simp -implicitDefEqProofs [r24_0, r24_1, r24_2, r24_3, r24_4, r24_5, r24_6, r24_7, r24_8, r24_9, l24_0, h0, h1, call14, callz14, e14, call41, callz41, e41, call46, callz46, e46, call55, callz55, e55, call56, callz56, e56, -List.getElem?_map, -getElem?_pos, List.getElem?_cons_zero, map_get, -List.map_take, -List.map_drop, take_map, drop_map, upd_ne, frOf_set, frOf_get, frOf_getD, encInt, t0, t1, t2, t20, t21, t22]
    refine .exit _ _ _ (Or.inr ⟨_, rfl, (by first | rfl | assumption | simp [upd, *]), (by first | rfl | assumption | simp [upd, *]), ?_⟩)
    first | trivial | assumption | simp [*]
theorem e24 (n : Int) (l : (List Rel)) (p : (List Int)) (h0 : l.length ≤ 1048576) (h1 : p.length ≤ 1048576) : evFL T 24 [.int .i64 n, .ts .imm 3 (l.map encRel), .ts .imm 1 (p.map encInt)] [] = some (.tup [.bool (valley n l p).1, .bool (valley n l p).2], []) := by
  rw [evFL_at fn24 (by simp)]
  cases hg : relsB n l
  · simp -implicitDefEqProofs [c24, r24_0, r24_1, r24_2, r24_3, r24_4, r24_5, r24_6, r24_7, r24_8, r24_9, h0, h1, call14, callz14, e14, call41, callz41, e41, call46, callz46, e46, call55, callz55, e55, call56, callz56, e56, -List.getElem?_map, -getElem?_pos, List.getElem?_cons_zero, map_get, -List.map_take, -List.map_drop, take_map, drop_map, upd_ne, frOf_set, frOf_get, frOf_getD, encInt, hg, valley]
  cases hn : inR (p.length : Int) 2 6
  · simp -implicitDefEqProofs [c24, r24_0, r24_1, r24_2, r24_3, r24_4, r24_5, r24_6, r24_7, r24_8, r24_9, h0, h1, call14, callz14, e14, call41, callz41, e41, call46, callz46, e46, call55, callz55, e55, call56, callz56, e56, -List.getElem?_map, -getElem?_pos, List.getElem?_cons_zero, map_get, -List.map_take, -List.map_drop, take_map, drop_map, upd_ne, frOf_set, frOf_get, frOf_getD, encInt, hg, hn, valley, stepsB]
  simp -implicitDefEqProofs [c24, r24_0, r24_1, r24_2, r24_3, r24_4, r24_5, r24_6, r24_7, r24_8, r24_9, h0, h1, call14, callz14, e14, call41, callz41, e41, call46, callz46, e46, call55, callz55, e55, call56, callz56, e56, -List.getElem?_map, -getElem?_pos, List.getElem?_cons_zero, map_get, -List.map_take, -List.map_drop, take_map, drop_map, upd_ne, frOf_set, frOf_get, frOf_getD, encInt, hg, hn]
  generalize hr : evCL T 0 (.loop l24_0) _ _ = r
  have h : R24_0 n l p  r := by rw [← hr]; exact L24_0 n l p h0 h1  (0) _ _ (by omega) ⟨_, rfl, (by simp [upd, *]), (by simp [upd, *]), (by simp [upd, *]), (by simp [upd, *]), (by simp [upd, *]), (by simp [upd, *]), rfl, by first | trivial | assumption | simp⟩
  clear hr
  rcases h with h | h
  · obtain ⟨f0, rfl, u0_6, u0_7, hf0⟩ := h
    simp -implicitDefEqProofs [r24_0, r24_1, r24_2, r24_3, r24_4, r24_5, r24_6, r24_7, r24_8, r24_9, h0, h1, call14, callz14, e14, call41, callz41, e41, call46, callz46, e46, call55, callz55, e55, call56, callz56, e56, -List.getElem?_map, -getElem?_pos, List.getElem?_cons_zero, map_get, -List.map_take, -List.map_drop, take_map, drop_map, upd_ne, frOf_set, frOf_get, frOf_getD, encInt, u0_6, u0_7, hf0, valley, stepsB]
  obtain ⟨f0, rfl, u0_1, u0_2, hf0⟩ := h
  have hfz := freeZ_free (d := false) (steps_kinds hf0)
  simp -implicitDefEqProofs [r24_0, r24_1, r24_2, r24_3, r24_4, r24_5, r24_6, r24_7, r24_8, r24_9, h0, h1, call14, callz14, e14, call41, callz41, e41, call46, callz46, e46, call55, callz55, e55, call56, callz56, e56, -List.getElem?_map, -getElem?_pos, List.getElem?_cons_zero, map_get, -List.map_take, -List.map_drop, take_map, drop_map, upd_ne, frOf_set, frOf_get, frOf_getD, encInt, u0_1, u0_2, hf0, valley, stepsB, hg, hn, hfz]
-- laws.eqIntS
@[simp] theorem call25 {m : Nat} (args : List AV) (S : St) : evCall T m (evFL T) 25 args S = lendC (evFL T 25) S (lendAll S i25.pes args) := evCall0 fn25 rfl rfl args S
@[simp] theorem callz25 (args : List AV) (S : St) : evCallFz T (evFL T) 25 args S = lendZ (evFL T 25) S i25.res (lendAll S i25.pes args) := evCallFz0 fn25 rfl rfl args S
@[simp] theorem pes25 : i25.pes = [[1], [1]] := rfl
@[simp] theorem body25 : i25.body = c25 := rfl
@[simp] theorem kind25 : i25.kind = 0 := rfl
@[simp] theorem tree25 : i25.tree = false := rfl
@[simp] theorem ntmps25 : i25.ntmps = 26 := rfl
@[simp] theorem results25 : i25.results = [(ResultVar.tmp 4)] := rfl
@[simp] theorem res25 : i25.res = [[0]] := rfl
def I25_0 (a : (List Int))  (i : Nat) (fr : Fr) (S : St) : Prop := ∃ f : Nat → AV, fr = frOf 26 f ∧ f 0 = .ts .imm 1 (a.map encInt) ∧ f 1 = .ts .imm 1 (a.map encInt) ∧ f 5 = .int .i64 i ∧ S = [] ∧ True
def R25_0 (a : (List Int))  (r : Option (Ex × Fr × St)) : Prop := (∃ f : Nat → AV, r = some (.exit 0, frOf 26 f, []) ∧ True)
theorem L25_0 (a : (List Int)) (ha0 : a.length ≤ 1048576)   : ∀ i fr S, i ≤ a.length → I25_0 a  i fr S → R25_0 a  (evCL T 0 (.loop l25_0) fr S) := by
  refine loopQ _ _ _ ?_ ?_
  · rintro i fr S hi ⟨f, rfl, t0, t1, t5, rfl, hf⟩
    have hwi : IntKind.i64.wrap ((i : Int) + 1) = (i : Int) + 1 := wrap64 (by omega) (by omega)
    all_goals simp -implicitDefEqProofs [r25_0, r25_1, r25_2, r25_3, r25_4, r25_5, r25_6, r25_7, r25_8, l25_0, ha0, -List.getElem?_map, -getElem?_pos, List.getElem?_cons_zero, map_get, -List.map_take, -List.map_drop, take_map, drop_map, upd_ne, frOf_set, frOf_get, frOf_getD, encInt, t0, t1, t5, hi, hwi]
    all_goals first | (refine .go _ _ ⟨_, rfl, (by first | rfl | assumption | simp [upd, *]), (by first | rfl | assumption | simp [upd, *]), (by first | rfl | assumption | simp [upd, *]), rfl, ?_⟩; first | trivial | assumption | simp [*]) | (refine .exit _ _ _ ⟨_, rfl, ?_⟩; first | trivial | assumption | simp [*])
  · rintro fr S ⟨f, rfl, t0, t1, t5, rfl, hf⟩
    simp -implicitDefEqProofs [r25_0, r25_1, r25_2, r25_3, r25_4, r25_5, r25_6, r25_7, r25_8, l25_0, ha0, -List.getElem?_map, -getElem?_pos, List.getElem?_cons_zero, map_get, -List.map_take, -List.map_drop, take_map, drop_map, upd_ne, frOf_set, frOf_get, frOf_getD, encInt, t0, t1, t5]
    refine .exit _ _ _ ⟨_, rfl, ?_⟩
    first | trivial | assumption | simp [*]
theorem e25 (a : (List Int)) (ha0 : a.length ≤ 1048576) : evFL T 25 [.ts .imm 1 (a.map encInt), .ts .imm 1 (a.map encInt)] [] = some (.bool true, []) := by
  rw [evFL_at fn25 (by simp)]
  simp -implicitDefEqProofs [c25, r25_0, r25_1, r25_2, r25_3, r25_4, r25_5, r25_6, r25_7, r25_8, ha0, -List.getElem?_map, -getElem?_pos, List.getElem?_cons_zero, map_get, -List.map_take, -List.map_drop, take_map, drop_map, upd_ne, frOf_set, frOf_get, frOf_getD, encInt]
  generalize hr : evCL T 0 (.loop l25_0) _ _ = r
  have h : R25_0 a  r := by rw [← hr]; exact L25_0 a ha0  (0) _ _ (by omega) ⟨_, rfl, (by simp [upd, *]), (by simp [upd, *]), (by simp [upd, *]), rfl, by first | trivial | assumption | simp⟩
  clear hr
  obtain ⟨f0, rfl, hf0⟩ := h
  simp -implicitDefEqProofs [r25_0, r25_1, r25_2, r25_3, r25_4, r25_5, r25_6, r25_7, r25_8, ha0, -List.getElem?_map, -getElem?_pos, List.getElem?_cons_zero, map_get, -List.map_take, -List.map_drop, take_map, drop_map, upd_ne, frOf_set, frOf_get, frOf_getD, encInt, hf0] <;> try omega
end Go.Pi.Ytichbkallidkcaa.IsValleyFree
