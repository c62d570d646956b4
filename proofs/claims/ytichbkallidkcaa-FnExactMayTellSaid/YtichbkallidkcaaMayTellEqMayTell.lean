/- What functions of the program answer, and that the law answers true at every input; no condition -/
import Derived.Test.YtichbkallidkcaaMayTellTabMayTell
import Derived.Test.YtichbkallidkcaaPiC
set_option linter.all false
/- Functions of the program, by equations. -/
namespace Go.Pi.Ytichbkallidkcaa.MayTell
open Go Go.Proofs Go.Pi 
set_option maxRecDepth 100000
set_option linter.unusedSimpArgs false
set_option linter.unusedVariables false
def encInt (x : Int) : List AV := [.int .i64 x]
@[simp] theorem own_encInt (x : Int) : ownOnlyL (encInt x) = true := by simp [encInt, ownOnlyL, ownOnly]
@[simp] theorem setQL_encInt (q : Ql) (x : Int) : setQL q (encInt x) = encInt x := rfl
structure Rel where
  a : Int
  b : Int
  kind : Int
  deriving Inhabited
@[simp] theorem Rel.eta (x : Rel) : (⟨x.a, x.b, x.kind⟩ : Rel) = x := rfl
def encRel (x : Rel) : List AV := [.int .i64 x.a, .int .i64 x.b, .int .i64 x.kind]
@[simp] theorem own_encRel (x : Rel) : ownOnlyL (encRel x) = true := by simp [encRel, ownOnlyL, ownOnly]
@[simp] theorem setQL_encRel (q : Ql) (x : Rel) : setQL q (encRel x) = encRel x := rfl
def encLRel (q : Ql) (x : (List Rel)) : List AV := [.ts q 3 (x.map encRel)]
@[simp] theorem own_encLRel (x : (List Rel)) : ownOnlyL (encLRel .own x) = true := by simp [encLRel, ownOnlyL, ownOnly]
@[simp] theorem setQL_encLRel (q q1 : Ql) (x : (List Rel)) : setQL q (encLRel q1 x) = encLRel q x := by simp [encLRel, Function.comp_def]
def smLRel (x : (List Rel)) : Prop := (x.length ≤ 1048576)
def wfLRel (x : (List Rel)) : Prop := (x.length ≤ 9223372036854775807)
def szLRel (x : (List Rel)) (l : Int) : Int := szL x.length (l)
theorem szLRel_le (x : (List Rel)) (l : Int) (h : 0 ≤ l) : szLRel x l ≤ l ∧ -1 ≤ szLRel x l ∧ (0 ≤ szLRel x l → l ≤ 1048576 → smLRel x) := szL_le x.length l h
-- laws.szRelS
@[simp] theorem call11 {m : Nat} (args : List AV) (S : St) : evCall T m (evFL T) 11 args S = lendC (evFL T 11) S (lendAll S i11.pes args) := evCall0 fn11 rfl rfl args S
@[simp] theorem callz11 (args : List AV) (S : St) : evCallFz T (evFL T) 11 args S = lendZ (evFL T 11) S i11.res (lendAll S i11.pes args) := evCallFz0 fn11 rfl rfl args S
@[simp] theorem pes11 : i11.pes = [[3], [0]] := rfl
@[simp] theorem body11 : i11.body = c11 := rfl
@[simp] theorem kind11 : i11.kind = 0 := rfl
@[simp] theorem tree11 : i11.tree = false := rfl
@[simp] theorem ntmps11 : i11.ntmps = 12 := rfl
@[simp] theorem results11 : i11.results = [(ResultVar.tmp 4)] := rfl
@[simp] theorem res11 : i11.res = [[0]] := rfl
theorem e11 (a : (List Rel)) (l : Int) (hw0 : a.length ≤ 9223372036854775807) (hl0 : 0 ≤ l) (hl1 : l ≤ 1048576) : evFL T 11 [.ts .imm 3 (a.map encRel), .int .i64 l] [] = some (.int .i64 (szLRel a l), []) := by
  rw [evFL_at fn11 (by simp)]
  have hn : IntKind.i64.wrap (l - (a.length : Int)) = l - (a.length : Int) := wrap64 (by omega) (by omega)
  by_cases hc0 : l - (a.length : Int) < 0
  all_goals simp -implicitDefEqProofs [c11, r11_0, r11_1, r11_2, r11_3, r11_4, hw0, hl0, hl1, -List.getElem?_map, -getElem?_pos, List.getElem?_cons_zero, map_get, -List.map_take, -List.map_drop, take_map, drop_map, upd_ne, frOf_set, frOf_get, frOf_getD, hn, szL, szLRel, hc0]
-- laws.toRel
@[simp] theorem call40 {m : Nat} (args : List AV) (S : St) : evCall T m (evFL T) 40 args S = lendC (evFL T 40) S (lendAll S i40.pes args) := evCall0 fn40 rfl rfl args S
@[simp] theorem callz40 (args : List AV) (S : St) : evCallFz T (evFL T) 40 args S = lendZ (evFL T 40) S i40.res (lendAll S i40.pes args) := evCallFz0 fn40 rfl rfl args S
@[simp] theorem pes40 : i40.pes = [[0, 0, 0]] := rfl
@[simp] theorem body40 : i40.body = c40 := rfl
@[simp] theorem kind40 : i40.kind = 0 := rfl
@[simp] theorem tree40 : i40.tree = false := rfl
@[simp] theorem ntmps40 : i40.ntmps = 14 := rfl
@[simp] theorem results40 : i40.results = [(ResultVar.cell 2 63)] := rfl
@[simp] theorem res40 : i40.res = [[0, 0, 0]] := rfl
theorem e40 (a_a : Int) (a_b : Int) (a_kind : Int)  : evFL T 40 [.agg [.int .i64 a_a, .int .i64 a_b, .int .i64 a_kind]] [] = some (.agg [.int .i64 a_a, .int .i64 a_b, .int .i64 a_kind], []) := by
  rw [evFL_at fn40 (by simp)]
  all_goals simp -implicitDefEqProofs [c40, r40_0, r40_1, r40_2, r40_3, r40_4, r40_5, -List.getElem?_map, -getElem?_pos, List.getElem?_cons_zero, map_get, -List.map_take, -List.map_drop, take_map, drop_map, upd_ne, frOf_set, frOf_get, frOf_getD]
theorem fset13 {a : (List Rel)} {i : Nat} (h : i < a.length) : (filled encRel [.int .i64 0, .int .i64 0, .int .i64 0] a i).set i [.int .i64 (nth a i).a, .int .i64 (nth a i).b, .int .i64 (nth a i).kind] = filled encRel [.int .i64 0, .int .i64 0, .int .i64 0] a (i + 1) := filled_set h
-- laws.toRelS
@[simp] theorem call13 {m : Nat} (args : List AV) (S : St) : evCall T m (evFL T) 13 args S = lendC (evFL T 13) S (lendAll S i13.pes args) := evCall0 fn13 rfl rfl args S
@[simp] theorem callz13 (args : List AV) (S : St) : evCallFz T (evFL T) 13 args S = lendZ (evFL T 13) S i13.res (lendAll S i13.pes args) := evCallFz0 fn13 rfl rfl args S
@[simp] theorem pes13 : i13.pes = [[3]] := rfl
@[simp] theorem body13 : i13.body = c13 := rfl
@[simp] theorem kind13 : i13.kind = 0 := rfl
@[simp] theorem tree13 : i13.tree = false := rfl
@[simp] theorem ntmps13 : i13.ntmps = 23 := rfl
@[simp] theorem results13 : i13.results = [(ResultVar.tmp 2)] := rfl
@[simp] theorem res13 : i13.res = [[3]] := rfl
def I13_0 (a : (List Rel))  (i : Nat) (fr : Fr) (S : St) : Prop := ∃ f : Nat → AV, fr = frOf 23 f ∧ f 0 = .ts .imm 3 (a.map encRel) ∧ f 3 = .sl 0 0 a.length ∧ f 4 = .int .i64 i ∧ S = [some ⟨.arr, 3, filled encRel [.int .i64 0, .int .i64 0, .int .i64 0] a i⟩] ∧ True
def R13_0 (a : (List Rel))  (r : Option (Ex × Fr × St)) : Prop := (∃ f : Nat → AV, r = some (.exit 0, frOf 23 f, [some ⟨.arr, 3, filled encRel [.int .i64 0, .int .i64 0, .int .i64 0] a a.length⟩]) ∧ f 3 = .sl 0 0 a.length ∧ True)
theorem L13_0 (a : (List Rel)) (ha0 : a.length ≤ 1048576)   : ∀ i fr S, i ≤ a.length → I13_0 a  i fr S → R13_0 a  (evCL T 0 (.loop l13_0) fr S) := by
  refine loopQ _ _ _ ?_ ?_
  · rintro i fr S hi ⟨f, rfl, t0, t3, t4, rfl, hf⟩
    have hm : (a.length : Int) ≤ 4294967296 := by omega
    have hm1 : a.length ≤ 4294967296 := by omega
    have hwi : IntKind.i64.wrap ((i : Int) + 1) = (i : Int) + 1 := wrap64 (by omega) (by omega)
    all_goals simp -implicitDefEqProofs [r13_0, r13_1, r13_2, r13_3, r13_4, r13_5, r13_6, l13_0, ha0, call40, callz40, e40, -List.getElem?_map, -getElem?_pos, List.getElem?_cons_zero, map_get, -List.map_take, -List.map_drop, take_map, drop_map, upd_ne, frOf_set, frOf_get, frOf_getD, encRel, hm, hm1, fset13, filled_get, t0, t3, t4, hi, hwi]
    all_goals first | (refine .go _ _ ⟨_, rfl, (by first | rfl | assumption | simp [upd, *]), (by first | rfl | assumption | simp [upd, *]), (by first | rfl | assumption | simp [upd, *]), rfl, ?_⟩; first | trivial | assumption | simp [*]) | (refine .exit _ _ _ ⟨_, rfl, (by first | rfl | assumption | simp [upd, *]), ?_⟩; first | trivial | assumption | simp [*])
  · rintro fr S ⟨f, rfl, t0, t3, t4, rfl, hf⟩
    have hm : (a.length : Int) ≤ 4294967296 := by omega
    have hm1 : a.length ≤ 4294967296 := by omega
    simp -implicitDefEqProofs [r13_0, r13_1, r13_2, r13_3, r13_4, r13_5, r13_6, l13_0, ha0, call40, callz40, e40, -List.getElem?_map, -getElem?_pos, List.getElem?_cons_zero, map_get, -List.map_take, -List.map_drop, take_map, drop_map, upd_ne, frOf_set, frOf_get, frOf_getD, encRel, hm, hm1, fset13, filled_get, t0, t3, t4]
    refine .exit _ _ _ ⟨_, rfl, (by first | rfl | assumption | simp [upd, *]), ?_⟩
    first | trivial | assumption | simp [*]
theorem e13 (a : (List Rel)) (ha0 : a.length ≤ 1048576) : evFL T 13 [.ts .imm 3 (a.map encRel)] [] = some (.sl 0 0 a.length, [some ⟨.arr, 3, a.map encRel⟩]) := by
  rw [evFL_at fn13 (by simp)]
  have hm : (a.length : Int) ≤ 4294967296 := by omega
  have hm1 : a.length ≤ 4294967296 := by omega
  simp -implicitDefEqProofs [c13, r13_0, r13_1, r13_2, r13_3, r13_4, r13_5, r13_6, ha0, call40, callz40, e40, -List.getElem?_map, -getElem?_pos, List.getElem?_cons_zero, map_get, -List.map_take, -List.map_drop, take_map, drop_map, upd_ne, frOf_set, frOf_get, frOf_getD, encRel, hm, hm1]
  generalize hr : evCL T 0 (.loop l13_0) _ _ = r
  have h : R13_0 a  r := by rw [← hr]; exact L13_0 a ha0  (0) _ _ (by omega) ⟨_, rfl, (by simp [upd, *]), (by simp [upd, *]), (by simp [upd, *]), by simp [← filled_zero], by first | trivial | assumption | simp⟩
  clear hr
  obtain ⟨f0, rfl, u0_3, hf0⟩ := h
  simp -implicitDefEqProofs [r13_0, r13_1, r13_2, r13_3, r13_4, r13_5, r13_6, ha0, call40, callz40, e40, -List.getElem?_map, -getElem?_pos, List.getElem?_cons_zero, map_get, -List.map_take, -List.map_drop, take_map, drop_map, upd_ne, frOf_set, frOf_get, frOf_getD, encRel, hm, hm1, u0_3, hf0, filled_end]
-- laws.eqRel
@[simp] theorem call44 {m : Nat} (args : List AV) (S : St) : evCall T m (evFL T) 44 args S = lendC (evFL T 44) S (lendAll S i44.pes args) := evCall0 fn44 rfl rfl args S
@[simp] theorem callz44 (args : List AV) (S : St) : evCallFz T (evFL T) 44 args S = lendZ (evFL T 44) S i44.res (lendAll S i44.pes args) := evCallFz0 fn44 rfl rfl args S
@[simp] theorem pes44 : i44.pes = [[0, 0, 0], [0, 0, 0]] := rfl
@[simp] theorem body44 : i44.body = c44 := rfl
@[simp] theorem kind44 : i44.kind = 0 := rfl
@[simp] theorem tree44 : i44.tree = false := rfl
@[simp] theorem ntmps44 : i44.ntmps = 20 := rfl
@[simp] theorem results44 : i44.results = [(ResultVar.tmp 4)] := rfl
@[simp] theorem res44 : i44.res = [[0]] := rfl
theorem e44 (a_a : Int) (a_b : Int) (a_kind : Int)  : evFL T 44 [.agg [.int .i64 a_a, .int .i64 a_b, .int .i64 a_kind], .agg [.int .i64 a_a, .int .i64 a_b, .int .i64 a_kind]] [] = some (.bool true, []) := by
  rw [evFL_at fn44 (by simp)]
  all_goals simp -implicitDefEqProofs [c44, r44_0, r44_1, r44_2, r44_3, r44_4, r44_5, r44_6, r44_7, -List.getElem?_map, -getElem?_pos, List.getElem?_cons_zero, map_get, -List.map_take, -List.map_drop, take_map, drop_map, upd_ne, frOf_set, frOf_get, frOf_getD]
-- laws.eqRelS
@[simp] theorem call15 {m : Nat} (args : List AV) (S : St) : evCall T m (evFL T) 15 args S = lendC (evFL T 15) S (lendAll S i15.pes args) := evCall0 fn15 rfl rfl args S
@[simp] theorem callz15 (args : List AV) (S : St) : evCallFz T (evFL T) 15 args S = lendZ (evFL T 15) S i15.res (lendAll S i15.pes args) := evCallFz0 fn15 rfl rfl args S
@[simp] theorem pes15 : i15.pes = [[3], [3]] := rfl
@[simp] theorem body15 : i15.body = c15 := rfl
@[simp] theorem kind15 : i15.kind = 0 := rfl
@[simp] theorem tree15 : i15.tree = false := rfl
@[simp] theorem ntmps15 : i15.ntmps = 27 := rfl
@[simp] theorem results15 : i15.results = [(ResultVar.tmp 4)] := rfl
@[simp] theorem res15 : i15.res = [[0]] := rfl
def I15_0 (a : (List Rel))  (i : Nat) (fr : Fr) (S : St) : Prop := ∃ f : Nat → AV, fr = frOf 27 f ∧ f 0 = .ts .imm 3 (a.map encRel) ∧ f 1 = .ts .imm 3 (a.map encRel) ∧ f 5 = .int .i64 i ∧ S = [] ∧ True
def R15_0 (a : (List Rel))  (r : Option (Ex × Fr × St)) : Prop := (∃ f : Nat → AV, r = some (.exit 0, frOf 27 f, []) ∧ True)
theorem L15_0 (a : (List Rel)) (ha0 : a.length ≤ 1048576)   : ∀ i fr S, i ≤ a.length → I15_0 a  i fr S → R15_0 a  (evCL T 0 (.loop l15_0) fr S) := by
  refine loopQ _ _ _ ?_ ?_
  · rintro i fr S hi ⟨f, rfl, t0, t1, t5, rfl, hf⟩
    have hwi : IntKind.i64.wrap ((i : Int) + 1) = (i : Int) + 1 := wrap64 (by omega) (by omega)
    all_goals simp -implicitDefEqProofs [r15_0, r15_1, r15_2, r15_3, r15_4, r15_5, r15_6, r15_7, r15_8, l15_0, ha0, call44, callz44, e44, -List.getElem?_map, -getElem?_pos, List.getElem?_cons_zero, map_get, -List.map_take, -List.map_drop, take_map, drop_map, upd_ne, frOf_set, frOf_get, frOf_getD, encRel, t0, t1, t5, hi, hwi]
    all_goals first | (refine .go _ _ ⟨_, rfl, (by first | rfl | assumption | simp [upd, *]), (by first | rfl | assumption | simp [upd, *]), (by first | rfl | assumption | simp [upd, *]), rfl, ?_⟩; first | trivial | assumption | simp [*]) | (refine .exit _ _ _ ⟨_, rfl, ?_⟩; first | trivial | assumption | simp [*])
  · rintro fr S ⟨f, rfl, t0, t1, t5, rfl, hf⟩
    simp -implicitDefEqProofs [r15_0, r15_1, r15_2, r15_3, r15_4, r15_5, r15_6, r15_7, r15_8, l15_0, ha0, call44, callz44, e44, -List.getElem?_map, -getElem?_pos, List.getElem?_cons_zero, map_get, -List.map_take, -List.map_drop, take_map, drop_map, upd_ne, frOf_set, frOf_get, frOf_getD, encRel, t0, t1, t5]
    refine .exit _ _ _ ⟨_, rfl, ?_⟩
    first | trivial | assumption | simp [*]
theorem e15 (a : (List Rel)) (ha0 : a.length ≤ 1048576) : evFL T 15 [.ts .imm 3 (a.map encRel), .ts .imm 3 (a.map encRel)] [] = some (.bool true, []) := by
  rw [evFL_at fn15 (by simp)]
  simp -implicitDefEqProofs [c15, r15_0, r15_1, r15_2, r15_3, r15_4, r15_5, r15_6, r15_7, r15_8, ha0, call44, callz44, e44, -List.getElem?_map, -getElem?_pos, List.getElem?_cons_zero, map_get, -List.map_take, -List.map_drop, take_map, drop_map, upd_ne, frOf_set, frOf_get, frOf_getD, encRel]
  generalize hr : evCL T 0 (.loop l15_0) _ _ = r
  have h : R15_0 a  r := by rw [← hr]; exact L15_0 a ha0  (0) _ _ (by omega) ⟨_, rfl, (by simp [upd, *]), (by simp [upd, *]), (by simp [upd, *]), rfl, by first | trivial | assumption | simp⟩
  clear hr
  obtain ⟨f0, rfl, hf0⟩ := h
  simp -implicitDefEqProofs [r15_0, r15_1, r15_2, r15_3, r15_4, r15_5, r15_6, r15_7, r15_8, ha0, call44, callz44, e44, -List.getElem?_map, -getElem?_pos, List.getElem?_cons_zero, map_get, -List.map_take, -List.map_drop, take_map, drop_map, upd_ne, frOf_set, frOf_get, frOf_getD, encRel, hf0] <;> try omega
-- spec.l1In
@[simp] theorem call39 {m : Nat} (args : List AV) (S : St) : evCall T m (evFL T) 39 args S = lendC (evFL T 39) S (lendAll S i39.pes args) := evCall0 fn39 rfl rfl args S
@[simp] theorem callz39 (args : List AV) (S : St) : evCallFz T (evFL T) 39 args S = lendZ (evFL T 39) S i39.res (lendAll S i39.pes args) := evCallFz0 fn39 rfl rfl args S
@[simp] theorem pes39 : i39.pes = [[0], [0], [0]] := rfl
@[simp] theorem body39 : i39.body = c39 := rfl
@[simp] theorem kind39 : i39.kind = 0 := rfl
@[simp] theorem tree39 : i39.tree = false := rfl
@[simp] theorem ntmps39 : i39.ntmps = 15 := rfl
@[simp] theorem results39 : i39.results = [(ResultVar.tmp 6)] := rfl
@[simp] theorem res39 : i39.res = [[0]] := rfl
theorem e39 (a : Int) (b : Int) (c : Int)  : evFL T 39 [.int .i64 a, .int .i64 b, .int .i64 c] [] = some (.bool (inR a b c), []) := by
  rw [evFL_at fn39 (by simp)]
  by_cases hc0 : b ≤ a
  all_goals simp -implicitDefEqProofs [c39, r39_0, r39_1, -List.getElem?_map, -getElem?_pos, List.getElem?_cons_zero, map_get, -List.map_take, -List.map_drop, take_map, drop_map, upd_ne, frOf_set, frOf_get, frOf_getD, inR, hc0]
def relEq (x y : Rel) : Bool := decide (x.a = y.a) && decide (x.b = y.b)
def relP (n : Int) (xs : List Rel) (i : Nat) : Bool := decide (0 ≤ (nth xs i).a ∧ (nth xs i).a < (nth xs i).b ∧ (nth xs i).b ≤ n ∧ 1 ≤ (nth xs i).kind ∧ (nth xs i).kind ≤ 3) && !(xs.take i).any (relEq (nth xs i))
def relsB (n : Int) (xs : List Rel) : Bool := inR n 1 5 && decide ((xs.length : Int) ≤ 15) && allB xs.length (relP n xs)
-- spec.GoodRels
@[simp] theorem call12 {m : Nat} (args : List AV) (S : St) : evCall T m (evFL T) 12 args S = lendC (evFL T 12) S (lendAll S i12.pes args) := evCall0 fn12 rfl rfl args S
@[simp] theorem callz12 (args : List AV) (S : St) : evCallFz T (evFL T) 12 args S = lendZ (evFL T 12) S i12.res (lendAll S i12.pes args) := evCallFz0 fn12 rfl rfl args S
@[simp] theorem pes12 : i12.pes = [[0], [3]] := rfl
@[simp] theorem body12 : i12.body = c12 := rfl
@[simp] theorem kind12 : i12.kind = 0 := rfl
@[simp] theorem tree12 : i12.tree = false := rfl
@[simp] theorem ntmps12 : i12.ntmps = 68 := rfl
@[simp] theorem results12 : i12.results = [(ResultVar.tmp 4)] := rfl
@[simp] theorem res12 : i12.res = [[0]] := rfl
def I12_0 (n : Int) (l : (List Rel)) (G0 : St) (i0 : Nat) (i : Nat) (fr : Fr) (S : St) : Prop := ∃ f : Nat → AV, ∃ G : St, fr = frOf 68 f ∧ f 0 = .int .i64 n ∧ f 1 = .ts .imm 3 (l.map encRel) ∧ f 6 = .ptr G0.length 0 0 ∧ f 17 = .ts .imm 3 (l.map encRel) ∧ f 18 = .int .i64 l.length ∧ f 19 = .int .i64 i0 ∧ f 48 = .ts .imm 3 ((l.take i0).map encRel) ∧ f 49 = .int .i64 i0 ∧ f 50 = .int .i64 i ∧ S = G0 ++ some ⟨.box, 3, [[.int .i64 (nth l i0).a, .int .i64 (nth l i0).b, .int .i64 (nth l i0).kind]]⟩ :: G ∧ ∀ j, j < i → relEq (nth l i0) (nth (l.take i0) j) = false
def R12_0 (n : Int) (l : (List Rel)) (G0 : St) (i0 : Nat) (r : Option (Ex × Fr × St)) : Prop := (∃ f : Nat → AV, ∃ G : St, r = some (.ret, frOf 68 f, G0 ++ some ⟨.box, 3, [[.int .i64 (nth l i0).a, .int .i64 (nth l i0).b, .int .i64 (nth l i0).kind]]⟩ :: G) ∧ f 4 = .bool false ∧ (l.take i0).any (relEq (nth l i0)) = true) ∨ (∃ f : Nat → AV, ∃ G : St, r = some (.exit 2, frOf 68 f, G0 ++ some ⟨.box, 3, [[.int .i64 (nth l i0).a, .int .i64 (nth l i0).b, .int .i64 (nth l i0).kind]]⟩ :: G) ∧ f 0 = .int .i64 n ∧ f 1 = .ts .imm 3 (l.map encRel) ∧ f 17 = .ts .imm 3 (l.map encRel) ∧ f 18 = .int .i64 l.length ∧ f 19 = .int .i64 i0 ∧ (l.take i0).any (relEq (nth l i0)) = false)
theorem L12_0 (n : Int) (l : (List Rel)) (h0 : l.length ≤ 1048576) (G0 : St) (i0 : Nat) (hi0 : i0 < l.length) : ∀ i fr S, i ≤ i0 → I12_0 n l G0 i0 i fr S → R12_0 n l G0 i0 (evCL T 0 (.loop l12_0) fr S) := by
  refine loopQ _ _ _ ?_ ?_
  · rintro i fr S hi ⟨f, G, rfl, t0, t1, t6, t17, t18, t19, t48, t49, t50, rfl, hf⟩
    have hwi : IntKind.i64.wrap ((i : Int) + 1) = (i : Int) + 1 := wrap64 (by omega) (by omega)
    have hmin : min i0 l.length = i0 := by omega
    have hlen : (l.take i0).length = i0 := by simp [hmin]
    have hi9 : i < (l.take i0).length := by omega
    by_cases ht1 : (nth (l.take i0) i).a = (nth l i0).a
    · by_cases ht2 : (nth (l.take i0) i).b = (nth l i0).b
      · simp -implicitDefEqProofs [r12_0, r12_1, r12_2, r12_3, r12_4, r12_5, r12_6, r12_7, r12_8, r12_9, r12_10, r12_11, r12_12, r12_13, r12_14, r12_15, l12_0, h0, call39, callz39, e39, -List.getElem?_map, -getElem?_pos, List.getElem?_cons_zero, map_get, -List.map_take, -List.map_drop, take_map, drop_map, upd_ne, frOf_set, frOf_get, frOf_getD, encRel, hi0, t0, t1, t6, t17, t18, t19, t48, t49, t50, hi, hwi, hmin, ht1, ht2]
        refine .ret _ _ (Or.inl ⟨_, _, rfl, (by first | rfl | assumption | simp [upd, *]), ?_⟩); exact any_hit hi9 (by simp [relEq, ht1, ht2])
      · simp -implicitDefEqProofs [r12_0, r12_1, r12_2, r12_3, r12_4, r12_5, r12_6, r12_7, r12_8, r12_9, r12_10, r12_11, r12_12, r12_13, r12_14, r12_15, l12_0, h0, call39, callz39, e39, -List.getElem?_map, -getElem?_pos, List.getElem?_cons_zero, map_get, -List.map_take, -List.map_drop, take_map, drop_map, upd_ne, frOf_set, frOf_get, frOf_getD, encRel, hi0, t0, t1, t6, t17, t18, t19, t48, t49, t50, hi, hwi, hmin, ht1, ht2]
        refine .go _ _ ⟨_, _, rfl, (by first | rfl | assumption | simp [upd, *]), (by first | rfl | assumption | simp [upd, *]), (by first | rfl | assumption | simp [upd, *]), (by first | rfl | assumption | simp [upd, *]), (by first | rfl | assumption | simp [upd, *]), (by first | rfl | assumption | simp [upd, *]), (by first | rfl | assumption | simp [upd, *]), (by first | rfl | assumption | simp [upd, *]), (by first | rfl | assumption | simp [upd, *]), rfl, ?_⟩; exact none_succ hf (by simp [relEq]; omega)
    · simp -implicitDefEqProofs [r12_0, r12_1, r12_2, r12_3, r12_4, r12_5, r12_6, r12_7, r12_8, r12_9, r12_10, r12_11, r12_12, r12_13, r12_14, r12_15, l12_0, h0, call39, callz39, e39, -List.getElem?_map, -getElem?_pos, List.getElem?_cons_zero, map_get, -List.map_take, -List.map_drop, take_map, drop_map, upd_ne, frOf_set, frOf_get, frOf_getD, encRel, hi0, t0, t1, t6, t17, t18, t19, t48, t49, t50, hi, hwi, hmin, ht1]
      refine .go _ _ ⟨_, _, rfl, (by first | rfl | assumption | simp [upd, *]), (by first | rfl | assumption | simp [upd, *]), (by first | rfl | assumption | simp [upd, *]), (by first | rfl | assumption | simp [upd, *]), (by first | rfl | assumption | simp [upd, *]), (by first | rfl | assumption | simp [upd, *]), (by first | rfl | assumption | simp [upd, *]), (by first | rfl | assumption | simp [upd, *]), (by first | rfl | assumption | simp [upd, *]), rfl, ?_⟩; exact none_succ hf (by simp [relEq]; omega)
  · rintro fr S ⟨f, G, rfl, t0, t1, t6, t17, t18, t19, t48, t49, t50, rfl, hf⟩
    simp -implicitDefEqProofs [r12_0, r12_1, r12_2, r12_3, r12_4, r12_5, r12_6, r12_7, r12_8, r12_9, r12_10, r12_11, r12_12, r12_13, r12_14, r12_15, l12_0, h0, call39, callz39, e39, -List.getElem?_map, -getElem?_pos, List.getElem?_cons_zero, map_get, -List.map_take, -List.map_drop, take_map, drop_map, upd_ne, frOf_set, frOf_get, frOf_getD, encRel, hi0, t0, t1, t6, t17, t18, t19, t48, t49, t50]
    refine .exit _ _ _ (Or.inr ⟨_, _, rfl, (by first | rfl | assumption | simp [upd, *]), (by first | rfl | assumption | simp [upd, *]), (by first | rfl | assumption | simp [upd, *]), (by first | rfl | assumption | simp [upd, *]), (by first | rfl | assumption | simp [upd, *]), ?_⟩)
    exact any_no (fun j hj => hf j (by simp at hj; omega))
def I12_1 (n : Int) (l : (List Rel))  (i : Nat) (fr : Fr) (S : St) : Prop := ∃ f : Nat → AV, ∃ G : St, fr = frOf 68 f ∧ f 0 = .int .i64 n ∧ f 1 = .ts .imm 3 (l.map encRel) ∧ f 17 = .ts .imm 3 (l.map encRel) ∧ f 18 = .int .i64 l.length ∧ f 19 = .int .i64 i ∧ S = G ∧ allB i (relP n l) = true
def R12_1 (n : Int) (l : (List Rel))  (r : Option (Ex × Fr × St)) : Prop := (∃ f : Nat → AV, ∃ G : St, r = some (.ret, frOf 68 f, G) ∧ f 4 = .bool false ∧ allB l.length (relP n l) = false) ∨ (∃ f : Nat → AV, ∃ G : St, r = some (.exit 0, frOf 68 f, G) ∧ allB l.length (relP n l) = true)
theorem L12_1 (n : Int) (l : (List Rel)) (h0 : l.length ≤ 1048576)   : ∀ i fr S, i ≤ l.length → I12_1 n l  i fr S → R12_1 n l  (evCL T 0 (.loop l12_1) fr S) := by
  refine loopQ _ _ _ ?_ ?_
  · rintro i fr S hi ⟨f, G, rfl, t0, t1, t17, t18, t19, rfl, hf⟩
    have hwi : IntKind.i64.wrap ((i : Int) + 1) = (i : Int) + 1 := wrap64 (by omega) (by omega)
    have hile : i ≤ l.length := Nat.le_of_lt hi
    by_cases ht1 : (nth l i).a < 0
    · simp -implicitDefEqProofs [r12_0, r12_1, r12_2, r12_3, r12_4, r12_5, r12_6, r12_7, r12_8, r12_9, r12_10, r12_11, r12_12, r12_13, r12_14, r12_15, l12_1, h0, call39, callz39, e39, -List.getElem?_map, -getElem?_pos, List.getElem?_cons_zero, map_get, -List.map_take, -List.map_drop, take_map, drop_map, upd_ne, frOf_set, frOf_get, frOf_getD, encRel, t0, t1, t17, t18, t19, hi, hwi, ht1]
      refine .ret _ _ (Or.inl ⟨_, _, rfl, (by first | rfl | assumption | simp [upd, *]), ?_⟩); exact allB_no hi (by have h9 : ¬ (0 ≤ (nth l i).a ∧ (nth l i).a < (nth l i).b ∧ (nth l i).b ≤ n ∧ 1 ≤ (nth l i).kind ∧ (nth l i).kind ≤ 3) := (by omega); simp only [relP, h9, decide_false, Bool.false_and])
    · by_cases ht2 : (nth l i).b ≤ (nth l i).a
      · simp -implicitDefEqProofs [r12_0, r12_1, r12_2, r12_3, r12_4, r12_5, r12_6, r12_7, r12_8, r12_9, r12_10, r12_11, r12_12, r12_13, r12_14, r12_15, l12_1, h0, call39, callz39, e39, -List.getElem?_map, -getElem?_pos, List.getElem?_cons_zero, map_get, -List.map_take, -List.map_drop, take_map, drop_map, upd_ne, frOf_set, frOf_get, frOf_getD, encRel, t0, t1, t17, t18, t19, hi, hwi, ht1, ht2]
        refine .ret _ _ (Or.inl ⟨_, _, rfl, (by first | rfl | assumption | simp [upd, *]), ?_⟩); exact allB_no hi (by have h9 : ¬ (0 ≤ (nth l i).a ∧ (nth l i).a < (nth l i).b ∧ (nth l i).b ≤ n ∧ 1 ≤ (nth l i).kind ∧ (nth l i).kind ≤ 3) := (by omega); simp only [relP, h9, decide_false, Bool.false_and])
      · by_cases ht3 : n < (nth l i).b
        · simp -implicitDefEqProofs [r12_0, r12_1, r12_2, r12_3, r12_4, r12_5, r12_6, r12_7, r12_8, r12_9, r12_10, r12_11, r12_12, r12_13, r12_14, r12_15, l12_1, h0, call39, callz39, e39, -List.getElem?_map, -getElem?_pos, List.getElem?_cons_zero, map_get, -List.map_take, -List.map_drop, take_map, drop_map, upd_ne, frOf_set, frOf_get, frOf_getD, encRel, t0, t1, t17, t18, t19, hi, hwi, ht1, ht2, ht3]
          refine .ret _ _ (Or.inl ⟨_, _, rfl, (by first | rfl | assumption | simp [upd, *]), ?_⟩); exact allB_no hi (by have h9 : ¬ (0 ≤ (nth l i).a ∧ (nth l i).a < (nth l i).b ∧ (nth l i).b ≤ n ∧ 1 ≤ (nth l i).kind ∧ (nth l i).kind ≤ 3) := (by omega); simp only [relP, h9, decide_false, Bool.false_and])
        · by_cases ht4 : inR (nth l i).kind 1 3 = true
          · simp -implicitDefEqProofs [r12_0, r12_1, r12_2, r12_3, r12_4, r12_5, r12_6, r12_7, r12_8, r12_9, r12_10, r12_11, r12_12, r12_13, r12_14, r12_15, l12_1, h0, call39, callz39, e39, -List.getElem?_map, -getElem?_pos, List.getElem?_cons_zero, map_get, -List.map_take, -List.map_drop, take_map, drop_map, upd_ne, frOf_set, frOf_get, frOf_getD, encRel, t0, t1, t17, t18, t19, hi, hwi, hile, ht1, ht2, ht3, ht4]
            generalize hr : evCL T 0 (.loop l12_0) _ _ = r
            have h : R12_0 n l S i r := by rw [← hr]; exact L12_0 n l h0 S i hi (0) _ _ (by omega) ⟨_, _, rfl, (by simp [upd, *]), (by simp [upd, *]), (by simp [upd, *]), (by simp [upd, *]), (by simp [upd, *]), (by simp [upd, *]), (by simp [upd, *]), (by simp [upd, *]), (by simp [upd, *]), rfl, by simp⟩
            clear hr
            rcases h with h | h
            · obtain ⟨f0, G, rfl, u0_4, hf0⟩ := h
              simp -implicitDefEqProofs [r12_0, r12_1, r12_2, r12_3, r12_4, r12_5, r12_6, r12_7, r12_8, r12_9, r12_10, r12_11, r12_12, r12_13, r12_14, r12_15, l12_1, h0, call39, callz39, e39, -List.getElem?_map, -getElem?_pos, List.getElem?_cons_zero, map_get, -List.map_take, -List.map_drop, take_map, drop_map, upd_ne, frOf_set, frOf_get, frOf_getD, encRel, t0, t1, t17, t18, t19, hi, hwi, u0_4]
              refine .ret _ _ (Or.inl ⟨_, _, rfl, (by first | rfl | assumption | simp [upd, *]), ?_⟩); exact allB_no hi (by simp [relP, hf0])
            obtain ⟨f0, G, rfl, u0_0, u0_1, u0_17, u0_18, u0_19, hf0⟩ := h
            simp -implicitDefEqProofs [r12_0, r12_1, r12_2, r12_3, r12_4, r12_5, r12_6, r12_7, r12_8, r12_9, r12_10, r12_11, r12_12, r12_13, r12_14, r12_15, l12_1, h0, call39, callz39, e39, -List.getElem?_map, -getElem?_pos, List.getElem?_cons_zero, map_get, -List.map_take, -List.map_drop, take_map, drop_map, upd_ne, frOf_set, frOf_get, frOf_getD, encRel, t0, t1, t17, t18, t19, hi, hwi, u0_0, u0_1, u0_17, u0_18, u0_19]
            refine .go _ _ ⟨_, _, rfl, (by first | rfl | assumption | simp [upd, *]), (by first | rfl | assumption | simp [upd, *]), (by first | rfl | assumption | simp [upd, *]), (by first | rfl | assumption | simp [upd, *]), (by first | rfl | assumption | simp [upd, *]), rfl, ?_⟩; rw [allB_succ, hf, Bool.true_and]; simp only [inR, Bool.and_eq_true, decide_eq_true_eq] at ht4; simp only [relP, hf0, Bool.not_false, Bool.and_true, decide_eq_true_eq]; exact ⟨by omega, by omega, by omega, ht4.1, ht4.2⟩
          · simp -implicitDefEqProofs [r12_0, r12_1, r12_2, r12_3, r12_4, r12_5, r12_6, r12_7, r12_8, r12_9, r12_10, r12_11, r12_12, r12_13, r12_14, r12_15, l12_1, h0, call39, callz39, e39, -List.getElem?_map, -getElem?_pos, List.getElem?_cons_zero, map_get, -List.map_take, -List.map_drop, take_map, drop_map, upd_ne, frOf_set, frOf_get, frOf_getD, encRel, t0, t1, t17, t18, t19, hi, hwi, ht1, ht2, ht3, ht4]
            refine .ret _ _ (Or.inl ⟨_, _, rfl, (by first | rfl | assumption | simp [upd, *]), ?_⟩); exact allB_no hi (by have h9 : ¬ (0 ≤ (nth l i).a ∧ (nth l i).a < (nth l i).b ∧ (nth l i).b ≤ n ∧ 1 ≤ (nth l i).kind ∧ (nth l i).kind ≤ 3) := (by intro h8; simp [inR] at ht4; omega); simp only [relP, h9, decide_false, Bool.false_and])
  · rintro fr S ⟨f, G, rfl, t0, t1, t17, t18, t19, rfl, hf⟩
    simp -implicitDefEqProofs [r12_0, r12_1, r12_2, r12_3, r12_4, r12_5, r12_6, r12_7, r12_8, r12_9, r12_10, r12_11, r12_12, r12_13, r12_14, r12_15, l12_1, h0, call39, callz39, e39, -List.getElem?_map, -getElem?_pos, List.getElem?_cons_zero, map_get, -List.map_take, -List.map_drop, take_map, drop_map, upd_ne, frOf_set, frOf_get, frOf_getD, encRel, t0, t1, t17, t18, t19]
    refine .exit _ _ _ (Or.inr ⟨_, _, rfl, ?_⟩)
    first | trivial | assumption | simp [*]
theorem e12 (n : Int) (l : (List Rel)) (h0 : l.length ≤ 1048576) : evFL T 12 [.int .i64 n, .ts .imm 3 (l.map encRel)] [] = some (.bool (relsB n l), []) := by
  rw [evFL_at fn12 (by simp)]
  cases hn : inR n 1 5
  · simp -implicitDefEqProofs [c12, r12_0, r12_1, r12_2, r12_3, r12_4, r12_5, r12_6, r12_7, r12_8, r12_9, r12_10, r12_11, r12_12, r12_13, r12_14, r12_15, h0, call39, callz39, e39, -List.getElem?_map, -getElem?_pos, List.getElem?_cons_zero, map_get, -List.map_take, -List.map_drop, take_map, drop_map, upd_ne, frOf_set, frOf_get, frOf_getD, encRel, hn, relsB]
  by_cases hm : (15 : Int) < (l.length : Int)
  · have hm2 : ¬ ((l.length : Int) ≤ 15) := by omega
    simp -implicitDefEqProofs [c12, r12_0, r12_1, r12_2, r12_3, r12_4, r12_5, r12_6, r12_7, r12_8, r12_9, r12_10, r12_11, r12_12, r12_13, r12_14, r12_15, h0, call39, callz39, e39, -List.getElem?_map, -getElem?_pos, List.getElem?_cons_zero, map_get, -List.map_take, -List.map_drop, take_map, drop_map, upd_ne, frOf_set, frOf_get, frOf_getD, encRel, hn, hm, hm2, relsB]
  have hm2 : ((l.length : Int) ≤ 15) := by omega
  simp -implicitDefEqProofs [c12, r12_0, r12_1, r12_2, r12_3, r12_4, r12_5, r12_6, r12_7, r12_8, r12_9, r12_10, r12_11, r12_12, r12_13, r12_14, r12_15, h0, call39, callz39, e39, -List.getElem?_map, -getElem?_pos, List.getElem?_cons_zero, map_get, -List.map_take, -List.map_drop, take_map, drop_map, upd_ne, frOf_set, frOf_get, frOf_getD, encRel, hn, hm, hm2]
  generalize hr : evCL T 0 (.loop l12_1) _ _ = r
  have h : R12_1 n l  r := by rw [← hr]; exact L12_1 n l h0  (0) _ _ (by omega) ⟨_, _, rfl, (by simp [upd, *]), (by simp [upd, *]), (by simp [upd, *]), (by simp [upd, *]), (by simp [upd, *]), rfl, by first | trivial | assumption | simp⟩
  clear hr
  rcases h with h | h
  · obtain ⟨f1, G, rfl, u1_4, hf1⟩ := h
    simp -implicitDefEqProofs [r12_0, r12_1, r12_2, r12_3, r12_4, r12_5, r12_6, r12_7, r12_8, r12_9, r12_10, r12_11, r12_12, r12_13, r12_14, r12_15, h0, call39, callz39, e39, -List.getElem?_map, -getElem?_pos, List.getElem?_cons_zero, map_get, -List.map_take, -List.map_drop, take_map, drop_map, upd_ne, frOf_set, frOf_get, frOf_getD, encRel, u1_4, hf1, relsB]
  obtain ⟨f1, G, rfl, hf1⟩ := h
  simp -implicitDefEqProofs [r12_0, r12_1, r12_2, r12_3, r12_4, r12_5, r12_6, r12_7, r12_8, r12_9, r12_10, r12_11, r12_12, r12_13, r12_14, r12_15, h0, call39, callz39, e39, -List.getElem?_map, -getElem?_pos, List.getElem?_cons_zero, map_get, -List.map_take, -List.map_drop, take_map, drop_map, upd_ne, frOf_set, frOf_get, frOf_getD, encRel, hf1, relsB, hn, hm2]
def kindOf (a b : Int) : List Rel → Int
  | [] => 0
  | x :: r => if x.a = a ∧ x.b = b then x.kind else if x.a = b ∧ x.b = a then IntKind.i64.wrap (4 - x.kind) else kindOf a b r
def kindTo (n : Int) (l : List Rel) (a b : Int) : Int × Bool := if relsB n l = true ∧ kindOf a b l ≠ 0 then (kindOf a b l, true) else (0, false)
-- spec.l11Kind
@[simp] theorem call45 {m : Nat} (args : List AV) (S : St) : evCall T m (evFL T) 45 args S = lendC (evFL T 45) S (lendAll S i45.pes args) := evCall0 fn45 rfl rfl args S
@[simp] theorem callz45 (args : List AV) (S : St) : evCallFz T (evFL T) 45 args S = lendZ (evFL T 45) S i45.res (lendAll S i45.pes args) := evCallFz0 fn45 rfl rfl args S
@[simp] theorem pes45 : i45.pes = [[3], [0], [0]] := rfl
@[simp] theorem body45 : i45.body = c45 := rfl
@[simp] theorem kind45 : i45.kind = 0 := rfl
@[simp] theorem tree45 : i45.tree = false := rfl
@[simp] theorem ntmps45 : i45.ntmps = 41 := rfl
@[simp] theorem results45 : i45.results = [(ResultVar.tmp 6)] := rfl
@[simp] theorem res45 : i45.res = [[0]] := rfl
def I45_0 (l : (List Rel)) (a : Int) (b : Int)  (i : Nat) (fr : Fr) (S : St) : Prop := ∃ f : Nat → AV, ∃ G : St, fr = frOf 41 f ∧ f 1 = .int .i64 a ∧ f 2 = .int .i64 b ∧ f 9 = .ts .imm 3 (l.map encRel) ∧ f 10 = .int .i64 l.length ∧ f 11 = .int .i64 i ∧ S = G ∧ kindOf a b (l.drop i) = kindOf a b l
def R45_0 (l : (List Rel)) (a : Int) (b : Int)  (r : Option (Ex × Fr × St)) : Prop := (∃ f : Nat → AV, ∃ G : St, ∃ j : Int, r = some (.ret, frOf 41 f, G) ∧ f 6 = .int .i64 j ∧ kindOf a b l = j) ∨ (∃ f : Nat → AV, ∃ G : St, r = some (.exit 0, frOf 41 f, G) ∧ kindOf a b l = 0)
theorem L45_0 (l : (List Rel)) (a : Int) (b : Int) (h0 : l.length ≤ 1048576)   : ∀ i fr S, i ≤ l.length → I45_0 l a b  i fr S → R45_0 l a b  (evCL T 0 (.loop l45_0) fr S) := by
  refine loopQ _ _ _ ?_ ?_
  · rintro i fr S hi ⟨f, G, rfl, t1, t2, t9, t10, t11, rfl, hf⟩
    have hwi : IntKind.i64.wrap ((i : Int) + 1) = (i : Int) + 1 := wrap64 (by omega) (by omega)
    rw [drop_nth hi] at hf
    rcases hx : nth l i with ⟨xa, xb, xk⟩
    by_cases ht1 : a = b
    · subst ht1
      by_cases ht2 : xa = a
      · by_cases ht3 : xb = a
        · simp -implicitDefEqProofs [r45_0, r45_1, r45_2, r45_3, r45_4, r45_5, r45_6, r45_7, r45_8, r45_9, l45_0, h0, -List.getElem?_map, -getElem?_pos, List.getElem?_cons_zero, map_get, -List.map_take, -List.map_drop, take_map, drop_map, upd_ne, frOf_set, frOf_get, frOf_getD, encRel, t1, t2, t9, t10, t11, hi, hwi, hx, ht2, ht3]
          refine .ret _ _ (Or.inl ⟨_, _, _, rfl, (by first | rfl | assumption | simp [upd, *]), ?_⟩); simp [kindOf, hx, ht2, ht3] at hf; exact hf.symm
        · simp -implicitDefEqProofs [r45_0, r45_1, r45_2, r45_3, r45_4, r45_5, r45_6, r45_7, r45_8, r45_9, l45_0, h0, -List.getElem?_map, -getElem?_pos, List.getElem?_cons_zero, map_get, -List.map_take, -List.map_drop, take_map, drop_map, upd_ne, frOf_set, frOf_get, frOf_getD, encRel, t1, t2, t9, t10, t11, hi, hwi, hx, ht2, ht3]
          refine .go _ _ ⟨_, _, rfl, (by first | rfl | assumption | simp [upd, *]), (by first | rfl | assumption | simp [upd, *]), (by first | rfl | assumption | simp [upd, *]), (by first | rfl | assumption | simp [upd, *]), (by first | rfl | assumption | simp [upd, *]), rfl, ?_⟩; simp [kindOf, hx, ht2, ht3] at hf; exact hf
      · simp -implicitDefEqProofs [r45_0, r45_1, r45_2, r45_3, r45_4, r45_5, r45_6, r45_7, r45_8, r45_9, l45_0, h0, -List.getElem?_map, -getElem?_pos, List.getElem?_cons_zero, map_get, -List.map_take, -List.map_drop, take_map, drop_map, upd_ne, frOf_set, frOf_get, frOf_getD, encRel, t1, t2, t9, t10, t11, hi, hwi, hx, ht2]
        refine .go _ _ ⟨_, _, rfl, (by first | rfl | assumption | simp [upd, *]), (by first | rfl | assumption | simp [upd, *]), (by first | rfl | assumption | simp [upd, *]), (by first | rfl | assumption | simp [upd, *]), (by first | rfl | assumption | simp [upd, *]), rfl, ?_⟩; simp [kindOf, hx, ht2] at hf; exact hf
    · by_cases ht4 : xa = a
      · subst ht4
        by_cases ht5 : xb = b
        · subst ht5
          simp -implicitDefEqProofs [r45_0, r45_1, r45_2, r45_3, r45_4, r45_5, r45_6, r45_7, r45_8, r45_9, l45_0, h0, -List.getElem?_map, -getElem?_pos, List.getElem?_cons_zero, map_get, -List.map_take, -List.map_drop, take_map, drop_map, upd_ne, frOf_set, frOf_get, frOf_getD, encRel, t1, t2, t9, t10, t11, hi, hwi, hx, ht1]
          refine .ret _ _ (Or.inl ⟨_, _, _, rfl, (by first | rfl | assumption | simp [upd, *]), ?_⟩); simp [kindOf, hx, ht1] at hf; exact hf.symm
        · simp -implicitDefEqProofs [r45_0, r45_1, r45_2, r45_3, r45_4, r45_5, r45_6, r45_7, r45_8, r45_9, l45_0, h0, -List.getElem?_map, -getElem?_pos, List.getElem?_cons_zero, map_get, -List.map_take, -List.map_drop, take_map, drop_map, upd_ne, frOf_set, frOf_get, frOf_getD, encRel, t1, t2, t9, t10, t11, hi, hwi, hx, ht1, ht5]
          refine .go _ _ ⟨_, _, rfl, (by first | rfl | assumption | simp [upd, *]), (by first | rfl | assumption | simp [upd, *]), (by first | rfl | assumption | simp [upd, *]), (by first | rfl | assumption | simp [upd, *]), (by first | rfl | assumption | simp [upd, *]), rfl, ?_⟩; simp [kindOf, hx, ht1, ht5] at hf; exact hf
      · by_cases ht6 : xa = b
        · subst ht6
          by_cases ht7 : xb = a
          · simp -implicitDefEqProofs [r45_0, r45_1, r45_2, r45_3, r45_4, r45_5, r45_6, r45_7, r45_8, r45_9, l45_0, h0, -List.getElem?_map, -getElem?_pos, List.getElem?_cons_zero, map_get, -List.map_take, -List.map_drop, take_map, drop_map, upd_ne, frOf_set, frOf_get, frOf_getD, encRel, t1, t2, t9, t10, t11, hi, hwi, hx, ht1, ht4, ht7]
            refine .ret _ _ (Or.inl ⟨_, _, _, rfl, (by first | rfl | assumption | simp [upd, *]), ?_⟩); simp [kindOf, hx, ht1, ht4, ht7] at hf; exact hf.symm
          · simp -implicitDefEqProofs [r45_0, r45_1, r45_2, r45_3, r45_4, r45_5, r45_6, r45_7, r45_8, r45_9, l45_0, h0, -List.getElem?_map, -getElem?_pos, List.getElem?_cons_zero, map_get, -List.map_take, -List.map_drop, take_map, drop_map, upd_ne, frOf_set, frOf_get, frOf_getD, encRel, t1, t2, t9, t10, t11, hi, hwi, hx, ht1, ht4, ht7]
            refine .go _ _ ⟨_, _, rfl, (by first | rfl | assumption | simp [upd, *]), (by first | rfl | assumption | simp [upd, *]), (by first | rfl | assumption | simp [upd, *]), (by first | rfl | assumption | simp [upd, *]), (by first | rfl | assumption | simp [upd, *]), rfl, ?_⟩; simp [kindOf, hx, ht1, ht4, ht7] at hf; exact hf
        · simp -implicitDefEqProofs [r45_0, r45_1, r45_2, r45_3, r45_4, r45_5, r45_6, r45_7, r45_8, r45_9, l45_0, h0, -List.getElem?_map, -getElem?_pos, List.getElem?_cons_zero, map_get, -List.map_take, -List.map_drop, take_map, drop_map, upd_ne, frOf_set, frOf_get, frOf_getD, encRel, t1, t2, t9, t10, t11, hi, hwi, hx, ht1, ht4, ht6]
          refine .go _ _ ⟨_, _, rfl, (by first | rfl | assumption | simp [upd, *]), (by first | rfl | assumption | simp [upd, *]), (by first | rfl | assumption | simp [upd, *]), (by first | rfl | assumption | simp [upd, *]), (by first | rfl | assumption | simp [upd, *]), rfl, ?_⟩; simp [kindOf, hx, ht1, ht4, ht6] at hf; exact hf
  · rintro fr S ⟨f, G, rfl, t1, t2, t9, t10, t11, rfl, hf⟩
    simp -implicitDefEqProofs [r45_0, r45_1, r45_2, r45_3, r45_4, r45_5, r45_6, r45_7, r45_8, r45_9, l45_0, h0, -List.getElem?_map, -getElem?_pos, List.getElem?_cons_zero, map_get, -List.map_take, -List.map_drop, take_map, drop_map, upd_ne, frOf_set, frOf_get, frOf_getD, encRel, t1, t2, t9, t10, t11]
    refine .exit _ _ _ (Or.inr ⟨_, _, rfl, ?_⟩)
    simpa [kindOf] using hf.symm
theorem e45 (l : (List Rel)) (a : Int) (b : Int) (h0 : l.length ≤ 1048576) : evFL T 45 [.ts .imm 3 (l.map encRel), .int .i64 a, .int .i64 b] [] = some (.int .i64 (kindOf a b l), []) := by
  rw [evFL_at fn45 (by simp)]
  simp -implicitDefEqProofs [c45, r45_0, r45_1, r45_2, r45_3, r45_4, r45_5, r45_6, r45_7, r45_8, r45_9, h0, -List.getElem?_map, -getElem?_pos, List.getElem?_cons_zero, map_get, -List.map_take, -List.map_drop, take_map, drop_map, upd_ne, frOf_set, frOf_get, frOf_getD, encRel]
  generalize hr : evCL T 0 (.loop l45_0) _ _ = r
  have h : R45_0 l a b  r := by rw [← hr]; exact L45_0 l a b h0  (0) _ _ (by omega) ⟨_, _, rfl, (by simp [upd, *]), (by simp [upd, *]), (by simp [upd, *]), (by simp [upd, *]), (by simp [upd, *]), rfl, by simp⟩
  clear hr
  rcases h with h | h
  · obtain ⟨f0, G, j, rfl, u0_6, hf0⟩ := h
    simp -implicitDefEqProofs [r45_0, r45_1, r45_2, r45_3, r45_4, r45_5, r45_6, r45_7, r45_8, r45_9, h0, -List.getElem?_map, -getElem?_pos, List.getElem?_cons_zero, map_get, -List.map_take, -List.map_drop, take_map, drop_map, upd_ne, frOf_set, frOf_get, frOf_getD, encRel, u0_6, hf0] <;> try omega
  obtain ⟨f0, G, rfl, hf0⟩ := h
  simp -implicitDefEqProofs [r45_0, r45_1, r45_2, r45_3, r45_4, r45_5, r45_6, r45_7, r45_8, r45_9, h0, -List.getElem?_map, -getElem?_pos, List.getElem?_cons_zero, map_get, -List.map_take, -List.map_drop, take_map, drop_map, upd_ne, frOf_set, frOf_get, frOf_getD, encRel, hf0] <;> try omega
theorem relsB_all {n : Int} {l : List Rel} (h : relsB n l = true) : ∀ x ∈ l, 0 ≤ x.a ∧ x.a < x.b ∧ x.b ≤ n ∧ 1 ≤ x.kind ∧ x.kind ≤ 3 := by
  intro x hx
  simp only [relsB, Bool.and_eq_true] at h
  obtain ⟨i, hi, rfl⟩ := List.getElem_of_mem hx
  have := allB_iff.1 h.2 i hi
  simp only [relP, Bool.and_eq_true, decide_eq_true_eq] at this
  rw [← nth_eq hi]; exact this.1
theorem kind_self {n : Int} {l : List Rel} (h : relsB n l = true) (a : Int) : kindOf a a l = 0 := by
  replace h := relsB_all h
  induction l with
  | nil => rfl
  | cons x r ih =>
    have hx := h x (by simp)
    have h1 : ¬ (x.a = a ∧ x.b = a) := by omega
    simp only [kindOf, h1, if_false]
    exact ih fun y hy => h y (by simp [hy])
def mayTell (n : Int) (l : List Rel) (a b c : Int) : Bool × Bool := if relsB n l = true ∧ b ≠ c ∧ kindOf a b l ≠ 0 ∧ kindOf a c l ≠ 0 then (decide (kindOf a b l = 1) || decide (kindOf a c l = 1), true) else (false, false)
-- spec.MayTell
@[simp] theorem call18 {m : Nat} (args : List AV) (S : St) : evCall T m (evFL T) 18 args S = lendC (evFL T 18) S (lendAll S i18.pes args) := evCall0 fn18 rfl rfl args S
@[simp] theorem callz18 (args : List AV) (S : St) : evCallFz T (evFL T) 18 args S = lendZ (evFL T 18) S i18.res (lendAll S i18.pes args) := evCallFz0 fn18 rfl rfl args S
@[simp] theorem pes18 : i18.pes = [[0], [3], [0], [0], [0]] := rfl
@[simp] theorem body18 : i18.body = c18 := rfl
@[simp] theorem kind18 : i18.kind = 0 := rfl
@[simp] theorem tree18 : i18.tree = false := rfl
@[simp] theorem ntmps18 : i18.ntmps = 57 := rfl
@[simp] theorem results18 : i18.results = [(ResultVar.tmp 10), (ResultVar.tmp 11)] := rfl
@[simp] theorem res18 : i18.res = [[0], [0]] := rfl
theorem e18 (n : Int) (l : (List Rel)) (a : Int) (b : Int) (c : Int) (h0 : l.length ≤ 1048576) : evFL T 18 [.int .i64 n, .ts .imm 3 (l.map encRel), .int .i64 a, .int .i64 b, .int .i64 c] [] = some (.tup [.bool (mayTell n l a b c).1, .bool (mayTell n l a b c).2], []) := by
  rw [evFL_at fn18 (by simp)]
  by_cases ht1 : relsB n l = true
  · by_cases ht2 : a = b
    · have hk := kind_self ht1 a
      subst ht2
      simp -implicitDefEqProofs [c18, r18_0, r18_1, r18_2, r18_3, h0, call12, callz12, e12, call45, callz45, e45, -List.getElem?_map, -getElem?_pos, List.getElem?_cons_zero, map_get, -List.map_take, -List.map_drop, take_map, drop_map, upd_ne, frOf_set, frOf_get, frOf_getD, ht1, hk, mayTell]
    · by_cases ht3 : b = c
      · subst ht3
        simp -implicitDefEqProofs [c18, r18_0, r18_1, r18_2, r18_3, h0, call12, callz12, e12, call45, callz45, e45, -List.getElem?_map, -getElem?_pos, List.getElem?_cons_zero, map_get, -List.map_take, -List.map_drop, take_map, drop_map, upd_ne, frOf_set, frOf_get, frOf_getD, ht1, ht2, mayTell]
      · by_cases ht4 : a = c
        · have hk := kind_self ht1 a
          subst ht4
          simp -implicitDefEqProofs [c18, r18_0, r18_1, r18_2, r18_3, h0, call12, callz12, e12, call45, callz45, e45, -List.getElem?_map, -getElem?_pos, List.getElem?_cons_zero, map_get, -List.map_take, -List.map_drop, take_map, drop_map, upd_ne, frOf_set, frOf_get, frOf_getD, ht1, ht2, ht3, hk, mayTell]
        · by_cases ht5 : kindOf a b l = 0
          · simp -implicitDefEqProofs [c18, r18_0, r18_1, r18_2, r18_3, h0, call12, callz12, e12, call45, callz45, e45, -List.getElem?_map, -getElem?_pos, List.getElem?_cons_zero, map_get, -List.map_take, -List.map_drop, take_map, drop_map, upd_ne, frOf_set, frOf_get, frOf_getD, mayTell, ht1, ht2, ht3, ht4, ht5]
          · by_cases ht6 : kindOf a c l = 0
            · simp -implicitDefEqProofs [c18, r18_0, r18_1, r18_2, r18_3, h0, call12, callz12, e12, call45, callz45, e45, -List.getElem?_map, -getElem?_pos, List.getElem?_cons_zero, map_get, -List.map_take, -List.map_drop, take_map, drop_map, upd_ne, frOf_set, frOf_get, frOf_getD, mayTell, ht1, ht2, ht3, ht4, ht5, ht6]
            · by_cases ht7 : kindOf a b l = 1
              · simp -implicitDefEqProofs [c18, r18_0, r18_1, r18_2, r18_3, h0, call12, callz12, e12, call45, callz45, e45, -List.getElem?_map, -getElem?_pos, List.getElem?_cons_zero, map_get, -List.map_take, -List.map_drop, take_map, drop_map, upd_ne, frOf_set, frOf_get, frOf_getD, mayTell, ht1, ht2, ht3, ht4, ht5, ht6, ht7]
              · simp -implicitDefEqProofs [c18, r18_0, r18_1, r18_2, r18_3, h0, call12, callz12, e12, call45, callz45, e45, -List.getElem?_map, -getElem?_pos, List.getElem?_cons_zero, map_get, -List.map_take, -List.map_drop, take_map, drop_map, upd_ne, frOf_set, frOf_get, frOf_getD, mayTell, ht1, ht2, ht3, ht4, ht5, ht6, ht7]
  · simp -implicitDefEqProofs [c18, r18_0, r18_1, r18_2, r18_3, h0, call12, callz12, e12, call45, callz45, e45, -List.getElem?_map, -getElem?_pos, List.getElem?_cons_zero, map_get, -List.map_take, -List.map_drop, take_map, drop_map, upd_ne, frOf_set, frOf_get, frOf_getD, mayTell, ht1]
-- impl.within
@[simp] theorem call41 {m : Nat} (args : List AV) (S : St) : evCall T m (evFL T) 41 args S = lendC (evFL T 41) S (lendAll S i41.pes args) := evCall0 fn41 rfl rfl args S
@[simp] theorem callz41 (args : List AV) (S : St) : evCallFz T (evFL T) 41 args S = lendZ (evFL T 41) S i41.res (lendAll S i41.pes args) := evCallFz0 fn41 rfl rfl args S
@[simp] theorem pes41 : i41.pes = [[0], [0], [0]] := rfl
@[simp] theorem body41 : i41.body = c41 := rfl
@[simp] theorem kind41 : i41.kind = 0 := rfl
@[simp] theorem tree41 : i41.tree = false := rfl
@[simp] theorem ntmps41 : i41.ntmps = 15 := rfl
@[simp] theorem results41 : i41.results = [(ResultVar.tmp 6)] := rfl
@[simp] theorem res41 : i41.res = [[0]] := rfl
theorem e41 (a : Int) (b : Int) (c : Int)  : evFL T 41 [.int .i64 a, .int .i64 b, .int .i64 c] [] = some (.bool (inR a b c), []) := by
  rw [evFL_at fn41 (by simp)]
  by_cases hc0 : b ≤ a
  all_goals simp -implicitDefEqProofs [c41, r41_0, r41_1, -List.getElem?_map, -getElem?_pos, List.getElem?_cons_zero, map_get, -List.map_take, -List.map_drop, take_map, drop_map, upd_ne, frOf_set, frOf_get, frOf_getD, inR, hc0]
-- slices.IndexFunc[[]loop.example/g00344/impl.Rel,loop.example/g00344/impl.Rel]
@[simp] theorem call70 {m : Nat} (args : List AV) (S : St) : evCall T m (evFL T) 70 args S = lendC (evFL T 70) S (lendAll S i70.pes args) := evCall0 fn70 rfl rfl args S
@[simp] theorem callz70 (args : List AV) (S : St) : evCallFz T (evFL T) 70 args S = lendZ (evFL T 70) S i70.res (lendAll S i70.pes args) := evCallFz0 fn70 rfl rfl args S
@[simp] theorem pes70 : i70.pes = [[3], [0]] := rfl
@[simp] theorem body70 : i70.body = c70 := rfl
@[simp] theorem kind70 : i70.kind = 0 := rfl
@[simp] theorem tree70 : i70.tree = false := rfl
@[simp] theorem ntmps70 : i70.ntmps = 19 := rfl
@[simp] theorem results70 : i70.results = [(ResultVar.tmp 4)] := rfl
@[simp] theorem res70 : i70.res = [[0]] := rfl
def I70_0 (a : (List Rel)) (g : Nat) (caps : List AV) (p : Rel → Bool)  (i : Nat) (fr : Fr) (S : St) : Prop := ∃ f : Nat → AV, fr = frOf 19 f ∧ f 0 = .ts .imm 3 (a.map encRel) ∧ f 1 = .fn g caps ∧ f 7 = .int .i64 a.length ∧ f 8 = .int .i64 i ∧ S = [] ∧ ∀ j, j < i → p (nth a j) = false
def R70_0 (a : (List Rel)) (g : Nat) (caps : List AV) (p : Rel → Bool)  (r : Option (Ex × Fr × St)) : Prop := (∃ f : Nat → AV, ∃ j : Int, r = some (.ret, frOf 19 f, []) ∧ f 4 = .int .i64 j ∧ idxF p a = j) ∨ (∃ f : Nat → AV, r = some (.exit 0, frOf 19 f, []) ∧ idxF p a = -1)
theorem L70_0 (a : (List Rel)) (g : Nat) (caps : List AV) (p : Rel → Bool) (hp : ∀ x ∈ a, ∀ (m : Nat) (S : St), evCall T m (evFL T) g (.agg [.int .i64 x.a, .int .i64 x.b, .int .i64 x.kind] :: caps) S = some (.bool (p x), S)) (hn : a.length ≤ 9223372036854775807)   : ∀ i fr S, i ≤ a.length → I70_0 a g caps p  i fr S → R70_0 a g caps p  (evCL T 0 (.loop l70_0) fr S) := by
  refine loopQ _ _ _ ?_ ?_
  · rintro i fr S hi ⟨f, rfl, t0, t1, t7, t8, rfl, hf⟩
    have hwi : IntKind.i64.wrap ((i : Int) + 1) = (i : Int) + 1 := wrap64 (by omega) (by omega)
    have hpi := hp (nth a i) (nth_mem hi) 0
    cases hc : p (nth a i)
    · simp -implicitDefEqProofs [r70_0, r70_1, r70_2, r70_3, r70_4, r70_5, r70_6, r70_7, l70_0, hp, hn, -List.getElem?_map, -getElem?_pos, List.getElem?_cons_zero, map_get, -List.map_take, -List.map_drop, take_map, drop_map, upd_ne, frOf_set, frOf_get, frOf_getD, encRel, t0, t1, t7, t8, hi, hwi, hpi, hc]
      refine .go _ _ ⟨_, rfl, (by first | rfl | assumption | simp [upd, *]), (by first | rfl | assumption | simp [upd, *]), (by first | rfl | assumption | simp [upd, *]), (by first | rfl | assumption | simp [upd, *]), rfl, ?_⟩; exact none_succ hf hc
    · simp -implicitDefEqProofs [r70_0, r70_1, r70_2, r70_3, r70_4, r70_5, r70_6, r70_7, l70_0, hp, hn, -List.getElem?_map, -getElem?_pos, List.getElem?_cons_zero, map_get, -List.map_take, -List.map_drop, take_map, drop_map, upd_ne, frOf_set, frOf_get, frOf_getD, encRel, t0, t1, t7, t8, hi, hwi, hpi, hc]
      refine .ret _ _ (Or.inl ⟨_, _, rfl, (by first | rfl | assumption | simp [upd, *]), ?_⟩); exact idxF_hit hi hf hc
  · rintro fr S ⟨f, rfl, t0, t1, t7, t8, rfl, hf⟩
    simp -implicitDefEqProofs [r70_0, r70_1, r70_2, r70_3, r70_4, r70_5, r70_6, r70_7, l70_0, hp, hn, -List.getElem?_map, -getElem?_pos, List.getElem?_cons_zero, map_get, -List.map_take, -List.map_drop, take_map, drop_map, upd_ne, frOf_set, frOf_get, frOf_getD, encRel, t0, t1, t7, t8]
    refine .exit _ _ _ (Or.inr ⟨_, rfl, ?_⟩)
    exact idxF_miss hf
theorem e70 (a : (List Rel)) (g : Nat) (caps : List AV) (p : Rel → Bool) (hp : ∀ x ∈ a, ∀ (m : Nat) (S : St), evCall T m (evFL T) g (.agg [.int .i64 x.a, .int .i64 x.b, .int .i64 x.kind] :: caps) S = some (.bool (p x), S)) (hn : a.length ≤ 9223372036854775807) : evFL T 70 [.ts .imm 3 (a.map encRel), .fn g caps] [] = some (.int .i64 (idxF p a), []) := by
  rw [evFL_at fn70 (by simp)]
  simp -implicitDefEqProofs [c70, r70_0, r70_1, r70_2, r70_3, r70_4, r70_5, r70_6, r70_7, hp, hn, -List.getElem?_map, -getElem?_pos, List.getElem?_cons_zero, map_get, -List.map_take, -List.map_drop, take_map, drop_map, upd_ne, frOf_set, frOf_get, frOf_getD, encRel]
  generalize hr : evCL T 0 (.loop l70_0) _ _ = r
  have h : R70_0 a g caps p  r := by rw [← hr]; exact L70_0 a g caps p hp hn  (0) _ _ (by omega) ⟨_, rfl, (by simp [upd, *]), (by simp [upd, *]), (by simp [upd, *]), (by simp [upd, *]), rfl, by simp⟩
  clear hr
  rcases h with h | h
  · obtain ⟨f0, j, rfl, u0_4, hf0⟩ := h
    simp -implicitDefEqProofs [r70_0, r70_1, r70_2, r70_3, r70_4, r70_5, r70_6, r70_7, hp, hn, -List.getElem?_map, -getElem?_pos, List.getElem?_cons_zero, map_get, -List.map_take, -List.map_drop, take_map, drop_map, upd_ne, frOf_set, frOf_get, frOf_getD, encRel, u0_4, hf0] <;> try omega
  obtain ⟨f0, rfl, hf0⟩ := h
  simp -implicitDefEqProofs [r70_0, r70_1, r70_2, r70_3, r70_4, r70_5, r70_6, r70_7, hp, hn, -List.getElem?_map, -getElem?_pos, List.getElem?_cons_zero, map_get, -List.map_take, -List.map_drop, take_map, drop_map, upd_ne, frOf_set, frOf_get, frOf_getD, encRel, hf0] <;> try omega
-- slices.ContainsFunc[[]loop.example/g00344/impl.Rel,loop.example/g00344/impl.Rel]
@[simp] theorem call42 {m : Nat} (args : List AV) (S : St) : evCall T m (evFL T) 42 args S = lendC (evFL T 42) S (lendAll S i42.pes args) := evCall0 fn42 rfl rfl args S
@[simp] theorem callz42 (args : List AV) (S : St) : evCallFz T (evFL T) 42 args S = lendZ (evFL T 42) S i42.res (lendAll S i42.pes args) := evCallFz0 fn42 rfl rfl args S
@[simp] theorem pes42 : i42.pes = [[3], [0]] := rfl
@[simp] theorem body42 : i42.body = c42 := rfl
@[simp] theorem kind42 : i42.kind = 0 := rfl
@[simp] theorem tree42 : i42.tree = false := rfl
@[simp] theorem ntmps42 : i42.ntmps = 9 := rfl
@[simp] theorem results42 : i42.results = [(ResultVar.tmp 4)] := rfl
@[simp] theorem res42 : i42.res = [[0]] := rfl
theorem e42 (a : (List Rel)) (g : Nat) (caps : List AV) (p : Rel → Bool) (hp : ∀ x ∈ a, ∀ (m : Nat) (S : St), evCall T m (evFL T) g (.agg [.int .i64 x.a, .int .i64 x.b, .int .i64 x.kind] :: caps) S = some (.bool (p x), S)) (hn : a.length ≤ 9223372036854775807) (hcaps : ∀ S, mapO (lendPtr S) caps = some caps) : evFL T 42 [.ts .imm 3 (a.map encRel), .fn g caps] [] = some (.bool (a.any p), []) := by
  rw [evFL_at fn42 (by simp)]
  have he := e70 a g caps p hp hn
  all_goals simp -implicitDefEqProofs [c42, r42_0, r42_1, hp, hn, hcaps, call70, callz70, e70, -List.getElem?_map, -getElem?_pos, List.getElem?_cons_zero, map_get, -List.map_take, -List.map_drop, take_map, drop_map, upd_ne, frOf_set, frOf_get, frOf_getD, he, idxF_any]
-- impl.GoodRels$1
@[simp] theorem call43 {m : Nat} (args : List AV) (S : St) : evCall T m (evFL T) 43 args S = lendC (evFL T 43) S (lendAll S i43.pes args) := evCall0 fn43 rfl rfl args S
@[simp] theorem callz43 (args : List AV) (S : St) : evCallFz T (evFL T) 43 args S = lendZ (evFL T 43) S i43.res (lendAll S i43.pes args) := evCallFz0 fn43 rfl rfl args S
@[simp] theorem pes43 : i43.pes = [[0, 0, 0], [0]] := rfl
@[simp] theorem body43 : i43.body = c43 := rfl
@[simp] theorem kind43 : i43.kind = 0 := rfl
@[simp] theorem tree43 : i43.tree = false := rfl
@[simp] theorem ntmps43 : i43.ntmps = 16 := rfl
@[simp] theorem results43 : i43.results = [(ResultVar.tmp 3)] := rfl
@[simp] theorem res43 : i43.res = [[0]] := rfl
theorem e43 (y_a : Int) (y_b : Int) (y_kind : Int) (xa : Int) (xb : Int) (xk : Int)  : evFL T 43 [.agg [.int .i64 y_a, .int .i64 y_b, .int .i64 y_kind], .tp .imm 3 [[.int .i64 xa, .int .i64 xb, .int .i64 xk]] 0 0] [] = some (.bool (relEq (⟨xa, xb, xk⟩ : Rel) (⟨y_a, y_b, y_kind⟩ : Rel)), []) := by
  rw [evFL_at fn43 (by simp)]
  by_cases hc0 : xa = y_a
  all_goals simp -implicitDefEqProofs [c43, r43_0, r43_1, -List.getElem?_map, -getElem?_pos, List.getElem?_cons_zero, map_get, -List.map_take, -List.map_drop, take_map, drop_map, upd_ne, frOf_set, frOf_get, frOf_getD, relEq, hc0]
-- impl.GoodRels
@[simp] theorem call14 {m : Nat} (args : List AV) (S : St) : evCall T m (evFL T) 14 args S = lendC (evFL T 14) S (lendAll S i14.pes args) := evCall0 fn14 rfl rfl args S
@[simp] theorem callz14 (args : List AV) (S : St) : evCallFz T (evFL T) 14 args S = lendZ (evFL T 14) S i14.res (lendAll S i14.pes args) := evCallFz0 fn14 rfl rfl args S
@[simp] theorem pes14 : i14.pes = [[0], [3]] := rfl
@[simp] theorem body14 : i14.body = c14 := rfl
@[simp] theorem kind14 : i14.kind = 0 := rfl
@[simp] theorem tree14 : i14.tree = false := rfl
@[simp] theorem ntmps14 : i14.ntmps = 50 := rfl
@[simp] theorem results14 : i14.results = [(ResultVar.tmp 4)] := rfl
@[simp] theorem res14 : i14.res = [[0]] := rfl
def I14_0 (n : Int) (l : (List Rel))  (i : Nat) (fr : Fr) (S : St) : Prop := ∃ f : Nat → AV, ∃ G : St, fr = frOf 50 f ∧ f 0 = .int .i64 n ∧ f 1 = .ts .imm 3 (l.map encRel) ∧ f 15 = .ts .imm 3 (l.map encRel) ∧ f 16 = .int .i64 l.length ∧ f 17 = .int .i64 i ∧ S = G ∧ allB i (relP n l) = true
def R14_0 (n : Int) (l : (List Rel))  (r : Option (Ex × Fr × St)) : Prop := (∃ f : Nat → AV, ∃ G : St, r = some (.ret, frOf 50 f, G) ∧ f 4 = .bool false ∧ allB l.length (relP n l) = false) ∨ (∃ f : Nat → AV, ∃ G : St, r = some (.exit 0, frOf 50 f, G) ∧ allB l.length (relP n l) = true)
theorem L14_0 (n : Int) (l : (List Rel)) (h0 : l.length ≤ 1048576)  (hn : inR n 1 5 = true) : ∀ i fr S, i ≤ l.length → I14_0 n l  i fr S → R14_0 n l  (evCL T 0 (.loop l14_0) fr S) := by
  refine loopQ _ _ _ ?_ ?_
  · rintro i fr S hi ⟨f, G, rfl, t0, t1, t15, t16, t17, rfl, hf⟩
    have hwi : IntKind.i64.wrap ((i : Int) + 1) = (i : Int) + 1 := wrap64 (by omega) (by omega)
    have hile : i ≤ l.length := Nat.le_of_lt hi
    have hmin : min i l.length = i := by omega
    have he := e42 (l.take i) 43 [.tp .imm 3 [[.int .i64 (nth l i).a, .int .i64 (nth l i).b, .int .i64 (nth l i).kind]] 0 0] (relEq (nth l i)) (fun y hy m S => by simp -implicitDefEqProofs [e43]) (by simp; omega) (fun S => by simp)
    have hn1 : 1 ≤ n ∧ n ≤ 5 := by simpa [inR] using hn
    by_cases ht1 : inR (nth l i).b 1 n = true
    · have hb1 : 1 ≤ (nth l i).b ∧ (nth l i).b ≤ n := by simpa [inR] using ht1
      have hwb : IntKind.i64.wrap ((nth l i).b - 1) = (nth l i).b - 1 := wrap64 (by omega) (by omega)
      by_cases ht2 : inR (nth l i).a 0 ((nth l i).b - 1) = true
      · by_cases ht3 : inR (nth l i).kind 1 3 = true
        · cases hany : (l.take i).any (relEq (nth l i))
          · simp -implicitDefEqProofs [r14_0, r14_1, r14_2, r14_3, r14_4, r14_5, r14_6, r14_7, r14_8, r14_9, l14_0, h0, call41, callz41, e41, call42, callz42, e42, call43, callz43, e43, -List.getElem?_map, -getElem?_pos, List.getElem?_cons_zero, map_get, -List.map_take, -List.map_drop, take_map, drop_map, upd_ne, frOf_set, frOf_get, frOf_getD, encRel, t0, t1, t15, t16, t17, hi, hwi, hile, hwb, he, hany, ht1, ht2, ht3]
            refine .go _ _ ⟨_, _, rfl, (by first | rfl | assumption | simp [upd, *]), (by first | rfl | assumption | simp [upd, *]), (by first | rfl | assumption | simp [upd, *]), (by first | rfl | assumption | simp [upd, *]), (by first | rfl | assumption | simp [upd, *]), rfl, ?_⟩; rw [allB_succ, hf, Bool.true_and]; simp only [inR, Bool.and_eq_true, decide_eq_true_eq] at ht2 ht3; simp only [relP, hany, Bool.not_false, Bool.and_true, decide_eq_true_eq]; exact ⟨by omega, by omega, by omega, ht3.1, ht3.2⟩
          · simp -implicitDefEqProofs [r14_0, r14_1, r14_2, r14_3, r14_4, r14_5, r14_6, r14_7, r14_8, r14_9, l14_0, h0, call41, callz41, e41, call42, callz42, e42, call43, callz43, e43, -List.getElem?_map, -getElem?_pos, List.getElem?_cons_zero, map_get, -List.map_take, -List.map_drop, take_map, drop_map, upd_ne, frOf_set, frOf_get, frOf_getD, encRel, t0, t1, t15, t16, t17, hi, hwi, hile, hwb, he, hany, ht1, ht2, ht3]
            refine .ret _ _ (Or.inl ⟨_, _, rfl, (by first | rfl | assumption | simp [upd, *]), ?_⟩); exact allB_no hi (by simp [relP, hany])
        · simp -implicitDefEqProofs [r14_0, r14_1, r14_2, r14_3, r14_4, r14_5, r14_6, r14_7, r14_8, r14_9, l14_0, h0, call41, callz41, e41, call42, callz42, e42, call43, callz43, e43, -List.getElem?_map, -getElem?_pos, List.getElem?_cons_zero, map_get, -List.map_take, -List.map_drop, take_map, drop_map, upd_ne, frOf_set, frOf_get, frOf_getD, encRel, t0, t1, t15, t16, t17, hi, hwi, hwb, ht1, ht2, ht3]
          refine .ret _ _ (Or.inl ⟨_, _, rfl, (by first | rfl | assumption | simp [upd, *]), ?_⟩); exact allB_no hi (by have h9 : ¬ (0 ≤ (nth l i).a ∧ (nth l i).a < (nth l i).b ∧ (nth l i).b ≤ n ∧ 1 ≤ (nth l i).kind ∧ (nth l i).kind ≤ 3) := (by intro h8; simp [inR] at ht3; omega); simp only [relP, h9, decide_false, Bool.false_and])
      · simp -implicitDefEqProofs [r14_0, r14_1, r14_2, r14_3, r14_4, r14_5, r14_6, r14_7, r14_8, r14_9, l14_0, h0, call41, callz41, e41, call42, callz42, e42, call43, callz43, e43, -List.getElem?_map, -getElem?_pos, List.getElem?_cons_zero, map_get, -List.map_take, -List.map_drop, take_map, drop_map, upd_ne, frOf_set, frOf_get, frOf_getD, encRel, t0, t1, t15, t16, t17, hi, hwi, hwb, ht1, ht2]
        refine .ret _ _ (Or.inl ⟨_, _, rfl, (by first | rfl | assumption | simp [upd, *]), ?_⟩); exact allB_no hi (by have h9 : ¬ (0 ≤ (nth l i).a ∧ (nth l i).a < (nth l i).b ∧ (nth l i).b ≤ n ∧ 1 ≤ (nth l i).kind ∧ (nth l i).kind ≤ 3) := (by intro h8; simp [inR] at ht2; omega); simp only [relP, h9, decide_false, Bool.false_and])
    · simp -implicitDefEqProofs [r14_0, r14_1, r14_2, r14_3, r14_4, r14_5, r14_6, r14_7, r14_8, r14_9, l14_0, h0, call41, callz41, e41, call42, callz42, e42, call43, callz43, e43, -List.getElem?_map, -getElem?_pos, List.getElem?_cons_zero, map_get, -List.map_take, -List.map_drop, take_map, drop_map, upd_ne, frOf_set, frOf_get, frOf_getD, encRel, t0, t1, t15, t16, t17, hi, hwi, ht1]
      refine .ret _ _ (Or.inl ⟨_, _, rfl, (by first | rfl | assumption | simp [upd, *]), ?_⟩); exact allB_no hi (by have h9 : ¬ (0 ≤ (nth l i).a ∧ (nth l i).a < (nth l i).b ∧ (nth l i).b ≤ n ∧ 1 ≤ (nth l i).kind ∧ (nth l i).kind ≤ 3) := (by intro h8; simp [inR] at ht1; omega); simp only [relP, h9, decide_false, Bool.false_and])
  · rintro fr S ⟨f, G, rfl, t0, t1, t15, t16, t17, rfl, hf⟩
    simp -implicitDefEqProofs [r14_0, r14_1, r14_2, r14_3, r14_4, r14_5, r14_6, r14_7, r14_8, r14_9, l14_0, h0, call41, callz41, e41, call42, callz42, e42, call43, callz43, e43, -List.getElem?_map, -getElem?_pos, List.getElem?_cons_zero, map_get, -List.map_take, -List.map_drop, take_map, drop_map, upd_ne, frOf_set, frOf_get, frOf_getD, encRel, t0, t1, t15, t16, t17]
    refine .exit _ _ _ (Or.inr ⟨_, _, rfl, ?_⟩)
    first | trivial | assumption | simp [*]
theorem e14 (n : Int) (l : (List Rel)) (h0 : l.length ≤ 1048576) : evFL T 14 [.int .i64 n, .ts .imm 3 (l.map encRel)] [] = some (.bool (relsB n l), []) := by
  rw [evFL_at fn14 (by simp)]
  cases hn : inR n 1 5
  · simp -implicitDefEqProofs [c14, r14_0, r14_1, r14_2, r14_3, r14_4, r14_5, r14_6, r14_7, r14_8, r14_9, h0, call41, callz41, e41, call42, callz42, e42, call43, callz43, e43, -List.getElem?_map, -getElem?_pos, List.getElem?_cons_zero, map_get, -List.map_take, -List.map_drop, take_map, drop_map, upd_ne, frOf_set, frOf_get, frOf_getD, encRel, hn, relsB]
  by_cases hm : (15 : Int) < (l.length : Int)
  · have hm2 : ¬ ((l.length : Int) ≤ 15) := by omega
    simp -implicitDefEqProofs [c14, r14_0, r14_1, r14_2, r14_3, r14_4, r14_5, r14_6, r14_7, r14_8, r14_9, h0, call41, callz41, e41, call42, callz42, e42, call43, callz43, e43, -List.getElem?_map, -getElem?_pos, List.getElem?_cons_zero, map_get, -List.map_take, -List.map_drop, take_map, drop_map, upd_ne, frOf_set, frOf_get, frOf_getD, encRel, hn, hm, hm2, relsB]
  have hm2 : ((l.length : Int) ≤ 15) := by omega
  simp -implicitDefEqProofs [c14, r14_0, r14_1, r14_2, r14_3, r14_4, r14_5, r14_6, r14_7, r14_8, r14_9, h0, call41, callz41, e41, call42, callz42, e42, call43, callz43, e43, -List.getElem?_map, -getElem?_pos, List.getElem?_cons_zero, map_get, -List.map_take, -List.map_drop, take_map, drop_map, upd_ne, frOf_set, frOf_get, frOf_getD, encRel, hn, hm, hm2]
  generalize hr : evCL T 0 (.loop l14_0) _ _ = r
  have h : R14_0 n l  r := by rw [← hr]; exact L14_0 n l h0 hn (0) _ _ (by omega) ⟨_, _, rfl, (by simp [upd, *]), (by simp [upd, *]), (by simp [upd, *]), (by simp [upd, *]), (by simp [upd, *]), rfl, by first | trivial | assumption | simp⟩
  clear hr
  rcases h with h | h
  · obtain ⟨f0, G, rfl, u0_4, hf0⟩ := h
    simp -implicitDefEqProofs [r14_0, r14_1, r14_2, r14_3, r14_4, r14_5, r14_6, r14_7, r14_8, r14_9, h0, call41, callz41, e41, call42, callz42, e42, call43, callz43, e43, -List.getElem?_map, -getElem?_pos, List.getElem?_cons_zero, map_get, -List.map_take, -List.map_drop, take_map, drop_map, upd_ne, frOf_set, frOf_get, frOf_getD, encRel, u0_4, hf0, relsB]
  obtain ⟨f0, G, rfl, hf0⟩ := h
  simp -implicitDefEqProofs [r14_0, r14_1, r14_2, r14_3, r14_4, r14_5, r14_6, r14_7, r14_8, r14_9, h0, call41, callz41, e41, call42, callz42, e42, call43, callz43, e43, -List.getElem?_map, -getElem?_pos, List.getElem?_cons_zero, map_get, -List.map_take, -List.map_drop, take_map, drop_map, upd_ne, frOf_set, frOf_get, frOf_getD, encRel, hf0, relsB, hn, hm2]
-- impl.kindTo
@[simp] theorem call46 {m : Nat} (args : List AV) (S : St) : evCall T m (evFL T) 46 args S = lendC (evFL T 46) S (lendAll S i46.pes args) := evCall0 fn46 rfl rfl args S
@[simp] theorem callz46 (args : List AV) (S : St) : evCallFz T (evFL T) 46 args S = lendZ (evFL T 46) S i46.res (lendAll S i46.pes args) := evCallFz0 fn46 rfl rfl args S
@[simp] theorem pes46 : i46.pes = [[3], [0], [0]] := rfl
@[simp] theorem body46 : i46.body = c46 := rfl
@[simp] theorem kind46 : i46.kind = 0 := rfl
@[simp] theorem tree46 : i46.tree = false := rfl
@[simp] theorem ntmps46 : i46.ntmps = 41 := rfl
@[simp] theorem results46 : i46.results = [(ResultVar.tmp 6)] := rfl
@[simp] theorem res46 : i46.res = [[0]] := rfl
def I46_0 (l : (List Rel)) (a : Int) (b : Int)  (i : Nat) (fr : Fr) (S : St) : Prop := ∃ f : Nat → AV, ∃ G : St, fr = frOf 41 f ∧ f 1 = .int .i64 a ∧ f 2 = .int .i64 b ∧ f 9 = .ts .imm 3 (l.map encRel) ∧ f 10 = .int .i64 l.length ∧ f 11 = .int .i64 i ∧ S = G ∧ kindOf a b (l.drop i) = kindOf a b l
def R46_0 (l : (List Rel)) (a : Int) (b : Int)  (r : Option (Ex × Fr × St)) : Prop := (∃ f : Nat → AV, ∃ G : St, ∃ j : Int, r = some (.ret, frOf 41 f, G) ∧ f 6 = .int .i64 j ∧ kindOf a b l = j) ∨ (∃ f : Nat → AV, ∃ G : St, r = some (.exit 0, frOf 41 f, G) ∧ kindOf a b l = 0)
theorem L46_0 (l : (List Rel)) (a : Int) (b : Int) (h0 : l.length ≤ 1048576)   : ∀ i fr S, i ≤ l.length → I46_0 l a b  i fr S → R46_0 l a b  (evCL T 0 (.loop l46_0) fr S) := by
  refine loopQ _ _ _ ?_ ?_
  · rintro i fr S hi ⟨f, G, rfl, t1, t2, t9, t10, t11, rfl, hf⟩
    have hwi : IntKind.i64.wrap ((i : Int) + 1) = (i : Int) + 1 := wrap64 (by omega) (by omega)
    rw [drop_nth hi] at hf
    rcases hx : nth l i with ⟨xa, xb, xk⟩
    by_cases ht1 : a = b
    · subst ht1
      by_cases ht2 : xa = a
      · by_cases ht3 : xb = a
        · simp -implicitDefEqProofs [r46_0, r46_1, r46_2, r46_3, r46_4, r46_5, r46_6, r46_7, r46_8, r46_9, l46_0, h0, -List.getElem?_map, -getElem?_pos, List.getElem?_cons_zero, map_get, -List.map_take, -List.map_drop, take_map, drop_map, upd_ne, frOf_set, frOf_get, frOf_getD, encRel, t1, t2, t9, t10, t11, hi, hwi, hx, ht2, ht3]
          refine .ret _ _ (Or.inl ⟨_, _, _, rfl, (by first | rfl | assumption | simp [upd, *]), ?_⟩); simp [kindOf, hx, ht2, ht3] at hf; exact hf.symm
        · simp -implicitDefEqProofs [r46_0, r46_1, r46_2, r46_3, r46_4, r46_5, r46_6, r46_7, r46_8, r46_9, l46_0, h0, -List.getElem?_map, -getElem?_pos, List.getElem?_cons_zero, map_get, -List.map_take, -List.map_drop, take_map, drop_map, upd_ne, frOf_set, frOf_get, frOf_getD, encRel, t1, t2, t9, t10, t11, hi, hwi, hx, ht2, ht3]
          refine .go _ _ ⟨_, _, rfl, (by first | rfl | assumption | simp [upd, *]), (by first | rfl | assumption | simp [upd, *]), (by first | rfl | assumption | simp [upd, *]), (by first | rfl | assumption | simp [upd, *]), (by first | rfl | assumption | simp [upd, *]), rfl, ?_⟩; simp [kindOf, hx, ht2, ht3] at hf; exact hf
      · simp -implicitDefEqProofs [r46_0, r46_1, r46_2, r46_3, r46_4, r46_5, r46_6, r46_7, r46_8, r46_9, l46_0, h0, -List.getElem?_map, -getElem?_pos, List.getElem?_cons_zero, map_get, -List.map_take, -List.map_drop, take_map, drop_map, upd_ne, frOf_set, frOf_get, frOf_getD, encRel, t1, t2, t9, t10, t11, hi, hwi, hx, ht2]
        refine .go _ _ ⟨_, _, rfl, (by first | rfl | assumption | simp [upd, *]), (by first | rfl | assumption | simp [upd, *]), (by first | rfl | assumption | simp [upd, *]), (by first | rfl | assumption | simp [upd, *]), (by first | rfl | assumption | simp [upd, *]), rfl, ?_⟩; simp [kindOf, hx, ht2] at hf; exact hf
    · by_cases ht4 : xa = a
      · subst ht4
        by_cases ht5 : xb = b
        · subst ht5
          simp -implicitDefEqProofs [r46_0, r46_1, r46_2, r46_3, r46_4, r46_5, r46_6, r46_7, r46_8, r46_9, l46_0, h0, -List.getElem?_map, -getElem?_pos, List.getElem?_cons_zero, map_get, -List.map_take, -List.map_drop, take_map, drop_map, upd_ne, frOf_set, frOf_get, frOf_getD, encRel, t1, t2, t9, t10, t11, hi, hwi, hx, ht1]
          refine .ret _ _ (Or.inl ⟨_, _, _, rfl, (by first | rfl | assumption | simp [upd, *]), ?_⟩); simp [kindOf, hx, ht1] at hf; exact hf.symm
        · simp -implicitDefEqProofs [r46_0, r46_1, r46_2, r46_3, r46_4, r46_5, r46_6, r46_7, r46_8, r46_9, l46_0, h0, -List.getElem?_map, -getElem?_pos, List.getElem?_cons_zero, map_get, -List.map_take, -List.map_drop, take_map, drop_map, upd_ne, frOf_set, frOf_get, frOf_getD, encRel, t1, t2, t9, t10, t11, hi, hwi, hx, ht1, ht5]
          refine .go _ _ ⟨_, _, rfl, (by first | rfl | assumption | simp [upd, *]), (by first | rfl | assumption | simp [upd, *]), (by first | rfl | assumption | simp [upd, *]), (by first | rfl | assumption | simp [upd, *]), (by first | rfl | assumption | simp [upd, *]), rfl, ?_⟩; simp [kindOf, hx, ht1, ht5] at hf; exact hf
      · by_cases ht6 : xa = b
        · subst ht6
          by_cases ht7 : xb = a
          · simp -implicitDefEqProofs [r46_0, r46_1, r46_2, r46_3, r46_4, r46_5, r46_6, r46_7, r46_8, r46_9, l46_0, h0, -List.getElem?_map, -getElem?_pos, List.getElem?_cons_zero, map_get, -List.map_take, -List.map_drop, take_map, drop_map, upd_ne, frOf_set, frOf_get, frOf_getD, encRel, t1, t2, t9, t10, t11, hi, hwi, hx, ht1, ht4, ht7]
            refine .ret _ _ (Or.inl ⟨_, _, _, rfl, (by first | rfl | assumption | simp [upd, *]), ?_⟩); simp [kindOf, hx, ht1, ht4, ht7] at hf; exact hf.symm
          · simp -implicitDefEqProofs [r46_0, r46_1, r46_2, r46_3, r46_4, r46_5, r46_6, r46_7, r46_8, r46_9, l46_0, h0, -List.getElem?_map, -getElem?_pos, List.getElem?_cons_zero, map_get, -List.map_take, -List.map_drop, take_map, drop_map, upd_ne, frOf_set, frOf_get, frOf_getD, encRel, t1, t2, t9, t10, t11, hi, hwi, hx, ht1, ht4, ht7]
            refine .go _ _ ⟨_, _, rfl, (by first | rfl | assumption | simp [upd, *]), (by first | rfl | assumption | simp [upd, *]), (by first | rfl | assumption | simp [upd, *]), (by first | rfl | assumption | simp [upd, *]), (by first | rfl | assumption | simp [upd, *]), rfl, ?_⟩; simp [kindOf, hx, ht1, ht4, ht7] at hf; exact hf
        · simp -implicitDefEqProofs [r46_0, r46_1, r46_2, r46_3, r46_4, r46_5, r46_6, r46_7, r46_8, r46_9, l46_0, h0, -List.getElem?_map, -getElem?_pos, List.getElem?_cons_zero, map_get, -List.map_take, -List.map_drop, take_map, drop_map, upd_ne, frOf_set, frOf_get, frOf_getD, encRel, t1, t2, t9, t10, t11, hi, hwi, hx, ht1, ht4, ht6]
          refine .go _ _ ⟨_, _, rfl, (by first | rfl | assumption | simp [upd, *]), (by first | rfl | assumption | simp [upd, *]), (by first | rfl | assumption | simp [upd, *]), (by first | rfl | assumption | simp [upd, *]), (by first | rfl | assumption | simp [upd, *]), rfl, ?_⟩; simp [kindOf, hx, ht1, ht4, ht6] at hf; exact hf
  · rintro fr S ⟨f, G, rfl, t1, t2, t9, t10, t11, rfl, hf⟩
    simp -implicitDefEqProofs [r46_0, r46_1, r46_2, r46_3, r46_4, r46_5, r46_6, r46_7, r46_8, r46_9, l46_0, h0, -List.getElem?_map, -getElem?_pos, List.getElem?_cons_zero, map_get, -List.map_take, -List.map_drop, take_map, drop_map, upd_ne, frOf_set, frOf_get, frOf_getD, encRel, t1, t2, t9, t10, t11]
    refine .exit _ _ _ (Or.inr ⟨_, _, rfl, ?_⟩)
    simpa [kindOf] using hf.symm
theorem e46 (l : (List Rel)) (a : Int) (b : Int) (h0 : l.length ≤ 1048576) : evFL T 46 [.ts .imm 3 (l.map encRel), .int .i64 a, .int .i64 b] [] = some (.int .i64 (kindOf a b l), []) := by
  rw [evFL_at fn46 (by simp)]
  simp -implicitDefEqProofs [c46, r46_0, r46_1, r46_2, r46_3, r46_4, r46_5, r46_6, r46_7, r46_8, r46_9, h0, -List.getElem?_map, -getElem?_pos, List.getElem?_cons_zero, map_get, -List.map_take, -List.map_drop, take_map, drop_map, upd_ne, frOf_set, frOf_get, frOf_getD, encRel]
  generalize hr : evCL T 0 (.loop l46_0) _ _ = r
  have h : R46_0 l a b  r := by rw [← hr]; exact L46_0 l a b h0  (0) _ _ (by omega) ⟨_, _, rfl, (by simp [upd, *]), (by simp [upd, *]), (by simp [upd, *]), (by simp [upd, *]), (by simp [upd, *]), rfl, by simp⟩
  clear hr
  rcases h with h | h
  · obtain ⟨f0, G, j, rfl, u0_6, hf0⟩ := h
    simp -implicitDefEqProofs [r46_0, r46_1, r46_2, r46_3, r46_4, r46_5, r46_6, r46_7, r46_8, r46_9, h0, -List.getElem?_map, -getElem?_pos, List.getElem?_cons_zero, map_get, -List.map_take, -List.map_drop, take_map, drop_map, upd_ne, frOf_set, frOf_get, frOf_getD, encRel, u0_6, hf0] <;> try omega
  obtain ⟨f0, G, rfl, hf0⟩ := h
  simp -implicitDefEqProofs [r46_0, r46_1, r46_2, r46_3, r46_4, r46_5, r46_6, r46_7, r46_8, r46_9, h0, -List.getElem?_map, -getElem?_pos, List.getElem?_cons_zero, map_get, -List.map_take, -List.map_drop, take_map, drop_map, upd_ne, frOf_set, frOf_get, frOf_getD, encRel, hf0] <;> try omega
-- impl.MayTell
@[simp] theorem call19 {m : Nat} (args : List AV) (S : St) : evCall T m (evFL T) 19 args S = lendC (evFL T 19) S (lendAll S i19.pes args) := evCall0 fn19 rfl rfl args S
@[simp] theorem callz19 (args : List AV) (S : St) : evCallFz T (evFL T) 19 args S = lendZ (evFL T 19) S i19.res (lendAll S i19.pes args) := evCallFz0 fn19 rfl rfl args S
@[simp] theorem pes19 : i19.pes = [[0], [3], [0], [0], [0]] := rfl
@[simp] theorem body19 : i19.body = c19 := rfl
@[simp] theorem kind19 : i19.kind = 0 := rfl
@[simp] theorem tree19 : i19.tree = false := rfl
@[simp] theorem ntmps19 : i19.ntmps = 43 := rfl
@[simp] theorem results19 : i19.results = [(ResultVar.tmp 10), (ResultVar.tmp 11)] := rfl
@[simp] theorem res19 : i19.res = [[0], [0]] := rfl
theorem e19 (n : Int) (l : (List Rel)) (a : Int) (b : Int) (c : Int) (h0 : l.length ≤ 1048576) : evFL T 19 [.int .i64 n, .ts .imm 3 (l.map encRel), .int .i64 a, .int .i64 b, .int .i64 c] [] = some (.tup [.bool (mayTell n l a b c).1, .bool (mayTell n l a b c).2], []) := by
  rw [evFL_at fn19 (by simp)]
  by_cases ht1 : relsB n l = true
  · by_cases ht2 : b = c
    · subst ht2
      simp -implicitDefEqProofs [c19, r19_0, r19_1, r19_2, r19_3, r19_4, r19_5, r19_6, h0, call14, callz14, e14, call46, callz46, e46, -List.getElem?_map, -getElem?_pos, List.getElem?_cons_zero, map_get, -List.map_take, -List.map_drop, take_map, drop_map, upd_ne, frOf_set, frOf_get, frOf_getD, ht1, mayTell]
    · by_cases ht3 : kindOf a b l = 0
      · simp -implicitDefEqProofs [c19, r19_0, r19_1, r19_2, r19_3, r19_4, r19_5, r19_6, h0, call14, callz14, e14, call46, callz46, e46, -List.getElem?_map, -getElem?_pos, List.getElem?_cons_zero, map_get, -List.map_take, -List.map_drop, take_map, drop_map, upd_ne, frOf_set, frOf_get, frOf_getD, mayTell, ht1, ht2, ht3]
      · by_cases ht4 : kindOf a c l = 0
        · simp -implicitDefEqProofs [c19, r19_0, r19_1, r19_2, r19_3, r19_4, r19_5, r19_6, h0, call14, callz14, e14, call46, callz46, e46, -List.getElem?_map, -getElem?_pos, List.getElem?_cons_zero, map_get, -List.map_take, -List.map_drop, take_map, drop_map, upd_ne, frOf_set, frOf_get, frOf_getD, mayTell, ht1, ht2, ht3, ht4]
        · by_cases ht5 : kindOf a b l = 1
          · simp -implicitDefEqProofs [c19, r19_0, r19_1, r19_2, r19_3, r19_4, r19_5, r19_6, h0, call14, callz14, e14, call46, callz46, e46, -List.getElem?_map, -getElem?_pos, List.getElem?_cons_zero, map_get, -List.map_take, -List.map_drop, take_map, drop_map, upd_ne, frOf_set, frOf_get, frOf_getD, mayTell, ht1, ht2, ht3, ht4, ht5]
          · simp -implicitDefEqProofs [c19, r19_0, r19_1, r19_2, r19_3, r19_4, r19_5, r19_6, h0, call14, callz14, e14, call46, callz46, e46, -List.getElem?_map, -getElem?_pos, List.getElem?_cons_zero, map_get, -List.map_take, -List.map_drop, take_map, drop_map, upd_ne, frOf_set, frOf_get, frOf_getD, mayTell, ht1, ht2, ht3, ht4, ht5]
  · simp -implicitDefEqProofs [c19, r19_0, r19_1, r19_2, r19_3, r19_4, r19_5, r19_6, h0, call14, callz14, e14, call46, callz46, e46, -List.getElem?_map, -getElem?_pos, List.getElem?_cons_zero, map_get, -List.map_take, -List.map_drop, take_map, drop_map, upd_ne, frOf_set, frOf_get, frOf_getD, mayTell, ht1]
end Go.Pi.Ytichbkallidkcaa.MayTell
