/- What functions of the program answer, and that the law answers true at every input; no condition -/
import Derived.Test.YtlcanbihlfncoaaGoodOffersTabOff
import Derived.Test.YtlcanbihlfncoaaPiC
set_option linter.all false
/- Functions of the program, by equations. -/
namespace Go.Pi.Ytlcanbihlfncoaa
open Go Go.Proofs Go.Pi 
set_option maxRecDepth 100000
set_option linter.unusedSimpArgs false
set_option linter.unusedVariables false
def encInt (x : Int) : List AV := [.int .i64 x]
@[simp] theorem own_encInt (x : Int) : ownOnlyL (encInt x) = true := by simp [encInt, ownOnlyL, ownOnly]
@[simp] theorem setQL_encInt (q : Ql) (x : Int) : setQL q (encInt x) = encInt x := rfl
def encLInt (q : Ql) (x : (List Int)) : List AV := [.ts q 1 (x.map encInt)]
@[simp] theorem own_encLInt (x : (List Int)) : ownOnlyL (encLInt .own x) = true := by simp [encLInt, ownOnlyL, ownOnly]
@[simp] theorem setQL_encLInt (q q1 : Ql) (x : (List Int)) : setQL q (encLInt q1 x) = encLInt q x := by simp [encLInt, Function.comp_def]
def smLInt (x : (List Int)) : Prop := (x.length ≤ 1048576)
def wfLInt (x : (List Int)) : Prop := (x.length ≤ 9223372036854775807)
def szLInt (x : (List Int)) (l : Int) : Int := szL x.length (l)
theorem szLInt_le (x : (List Int)) (l : Int) (h : 0 ≤ l) : szLInt x l ≤ l ∧ -1 ≤ szLInt x l ∧ (0 ≤ szLInt x l → l ≤ 1048576 → smLInt x) := szL_le x.length l h
structure Attrs where
  origin : Int
  path : (List Int)
  next : Int
  med : Int
  pref : Int
  comms : (List Int)
  deriving Inhabited
@[simp] theorem Attrs.eta (x : Attrs) : (⟨x.origin, x.path, x.next, x.med, x.pref, x.comms⟩ : Attrs) = x := rfl
def encAttrs (q : Ql) (x : Attrs) : List AV := [.int .i64 x.origin, .ts q 1 (x.path.map encInt), .int .i64 x.next, .int .i64 x.med, .int .i64 x.pref, .ts q 1 (x.comms.map encInt)]
@[simp] theorem own_encAttrs (x : Attrs) : ownOnlyL (encAttrs .own x) = true := by simp [encAttrs, ownOnlyL, ownOnly]
@[simp] theorem setQL_encAttrs (q q1 : Ql) (x : Attrs) : setQL q (encAttrs q1 x) = encAttrs q x := by simp [encAttrs, Function.comp_def]
def smAttrs (x : Attrs) : Prop := (x.path.length ≤ 1048576) ∧ (x.comms.length ≤ 1048576)
def wfAttrs (x : Attrs) : Prop := (x.path.length ≤ 9223372036854775807) ∧ (x.comms.length ≤ 9223372036854775807)
def szAttrs (x : Attrs) (l : Int) : Int := szThen (szLInt x.path l) fun l => szThen (szLInt x.comms l) fun l => l
theorem szAttrs_le (x : Attrs) (l : Int) (h : 0 ≤ l) : szAttrs x l ≤ l ∧ -1 ≤ szAttrs x l ∧ (0 ≤ szAttrs x l → l ≤ 1048576 → smAttrs x) := by
  simp only [szAttrs, szThen]
  have h0 := szLInt_le x.path (l) (by omega)
  by_cases hc0 : szLInt x.path (l) < 0
  · simp only [hc0, if_true, if_false]; exact ⟨by omega, by omega, fun h => by omega⟩
  have h1 := szLInt_le x.comms (szLInt x.path (l)) (by omega)
  by_cases hc1 : szLInt x.comms (szLInt x.path (l)) < 0
  · simp only [hc0, hc1, if_true, if_false]; exact ⟨by omega, by omega, fun h => by omega⟩
  simp only [hc0, hc1, if_false]
  refine ⟨by omega, by omega, fun h9 h8 => ?_⟩
  have k0 := h0.2.2 (by omega) (by omega)
  have k1 := h1.2.2 (by omega) (by omega)
  simp only [smAttrs, smLInt, smLInt] at *
  refine ⟨?_, ?_⟩ <;> first | omega | assumption | simp_all
structure Offer where
  peer : Int
  attrs : Attrs
  deriving Inhabited
@[simp] theorem Offer.eta (x : Offer) : (⟨x.peer, x.attrs⟩ : Offer) = x := rfl
def encOffer (q : Ql) (x : Offer) : List AV := [.int .i64 x.peer, .int .i64 x.attrs.origin, .ts q 1 (x.attrs.path.map encInt), .int .i64 x.attrs.next, .int .i64 x.attrs.med, .int .i64 x.attrs.pref, .ts q 1 (x.attrs.comms.map encInt)]
@[simp] theorem own_encOffer (x : Offer) : ownOnlyL (encOffer .own x) = true := by simp [encOffer, ownOnlyL, ownOnly]
@[simp] theorem setQL_encOffer (q q1 : Ql) (x : Offer) : setQL q (encOffer q1 x) = encOffer q x := by simp [encOffer, Function.comp_def]
def smOffer (x : Offer) : Prop := (x.attrs.path.length ≤ 1048576) ∧ (x.attrs.comms.length ≤ 1048576)
def wfOffer (x : Offer) : Prop := (x.attrs.path.length ≤ 9223372036854775807) ∧ (x.attrs.comms.length ≤ 9223372036854775807)
def szOffer (x : Offer) (l : Int) : Int := szThen (szAttrs x.attrs l) fun l => l
theorem szOffer_le (x : Offer) (l : Int) (h : 0 ≤ l) : szOffer x l ≤ l ∧ -1 ≤ szOffer x l ∧ (0 ≤ szOffer x l → l ≤ 1048576 → smOffer x) := by
  simp only [szOffer, szThen]
  have h0 := szAttrs_le x.attrs (l) (by omega)
  by_cases hc0 : szAttrs x.attrs (l) < 0
  · simp only [hc0, if_true, if_false]; exact ⟨by omega, by omega, fun h => by omega⟩
  simp only [hc0, if_false]
  refine ⟨by omega, by omega, fun h9 h8 => ?_⟩
  have k0 := h0.2.2 (by omega) (by omega)
  simp only [smOffer, smAttrs] at *
  refine ⟨?_, ?_⟩ <;> first | omega | assumption | simp_all
def encLOffer (q : Ql) (x : (List Offer)) : List AV := [.ts q 7 (x.map (encOffer q))]
@[simp] theorem own_encLOffer (x : (List Offer)) : ownOnlyL (encLOffer .own x) = true := by simp [encLOffer, ownOnlyL, ownOnly]
@[simp] theorem setQL_encLOffer (q q1 : Ql) (x : (List Offer)) : setQL q (encLOffer q1 x) = encLOffer q x := by simp [encLOffer, Function.comp_def]
def smLOffer (x : (List Offer)) : Prop := (x.length ≤ 1048576) ∧ (∀ y ∈ x, smOffer y)
def wfLOffer (x : (List Offer)) : Prop := (x.length ≤ 9223372036854775807) ∧ (∀ y ∈ x, wfOffer y)
def szLOffer (x : (List Offer)) (l : Int) : Int := szS szOffer x (l)
theorem szLOffer_le (x : (List Offer)) (l : Int) (h : 0 ≤ l) : szLOffer x l ≤ l ∧ -1 ≤ szLOffer x l ∧ (0 ≤ szLOffer x l → l ≤ 1048576 → smLOffer x) := szS_le (fun y _ l h => szOffer_le y l h) l h
-- spec.l1In
@[simp] theorem call48 {m : Nat} (args : List AV) (S : St) : evCall T m (evFL T) 48 args S = lendC (evFL T 48) S (lendAll S i48.pes args) := evCall0 fn48 rfl rfl args S
@[simp] theorem callz48 (args : List AV) (S : St) : evCallFz T (evFL T) 48 args S = lendZ (evFL T 48) S i48.res (lendAll S i48.pes args) := evCallFz0 fn48 rfl rfl args S
@[simp] theorem pes48 : i48.pes = [[0], [0], [0]] := rfl
@[simp] theorem body48 : i48.body = c48 := rfl
@[simp] theorem kind48 : i48.kind = 0 := rfl
@[simp] theorem tree48 : i48.tree = false := rfl
@[simp] theorem ntmps48 : i48.ntmps = 15 := rfl
@[simp] theorem results48 : i48.results = [(ResultVar.tmp 6)] := rfl
@[simp] theorem res48 : i48.res = [[0]] := rfl
theorem e48 (a : Int) (b : Int) (c : Int)  : evFL T 48 [.int .i64 a, .int .i64 b, .int .i64 c] [] = some (.bool (inR a b c), []) := by
  rw [evFL_at fn48 (by simp)]
  by_cases hc0 : b ≤ a
  all_goals simp -implicitDefEqProofs [c48, r48_0, r48_1, -List.getElem?_map, -getElem?_pos, List.getElem?_cons_zero, map_get, upd_ne, frOf_set, frOf_get, frOf_getD, inR, hc0]
-- impl.within
@[simp] theorem call91 {m : Nat} (args : List AV) (S : St) : evCall T m (evFL T) 91 args S = lendC (evFL T 91) S (lendAll S i91.pes args) := evCall0 fn91 rfl rfl args S
@[simp] theorem callz91 (args : List AV) (S : St) : evCallFz T (evFL T) 91 args S = lendZ (evFL T 91) S i91.res (lendAll S i91.pes args) := evCallFz0 fn91 rfl rfl args S
@[simp] theorem pes91 : i91.pes = [[0], [0], [0]] := rfl
@[simp] theorem body91 : i91.body = c91 := rfl
@[simp] theorem kind91 : i91.kind = 0 := rfl
@[simp] theorem tree91 : i91.tree = false := rfl
@[simp] theorem ntmps91 : i91.ntmps = 15 := rfl
@[simp] theorem results91 : i91.results = [(ResultVar.tmp 6)] := rfl
@[simp] theorem res91 : i91.res = [[0]] := rfl
theorem e91 (a : Int) (b : Int) (c : Int)  : evFL T 91 [.int .i64 a, .int .i64 b, .int .i64 c] [] = some (.bool (inR a b c), []) := by
  rw [evFL_at fn91 (by simp)]
  by_cases hc0 : b ≤ a
  all_goals simp -implicitDefEqProofs [c91, r91_0, r91_1, -List.getElem?_map, -getElem?_pos, List.getElem?_cons_zero, map_get, upd_ne, frOf_set, frOf_get, frOf_getD, inR, hc0]
-- impl.isValue
@[simp] theorem call100 {m : Nat} (args : List AV) (S : St) : evCall T m (evFL T) 100 args S = lendC (evFL T 100) S (lendAll S i100.pes args) := evCall0 fn100 rfl rfl args S
@[simp] theorem callz100 (args : List AV) (S : St) : evCallFz T (evFL T) 100 args S = lendZ (evFL T 100) S i100.res (lendAll S i100.pes args) := evCallFz0 fn100 rfl rfl args S
@[simp] theorem pes100 : i100.pes = [[0]] := rfl
@[simp] theorem body100 : i100.body = c100 := rfl
@[simp] theorem kind100 : i100.kind = 0 := rfl
@[simp] theorem tree100 : i100.tree = false := rfl
@[simp] theorem ntmps100 : i100.ntmps = 5 := rfl
@[simp] theorem results100 : i100.results = [(ResultVar.tmp 2)] := rfl
@[simp] theorem res100 : i100.res = [[0]] := rfl
theorem e100 (a : Int)  : evFL T 100 [.int .i64 a] [] = some (.bool (inR a 0 1000000), []) := by
  rw [evFL_at fn100 (by simp)]
  all_goals simp -implicitDefEqProofs [c100, r100_0, r100_1, call91, callz91, e91, -List.getElem?_map, -getElem?_pos, List.getElem?_cons_zero, map_get, upd_ne, frOf_set, frOf_get, frOf_getD]
-- impl.isAsn
@[simp] theorem call66 {m : Nat} (args : List AV) (S : St) : evCall T m (evFL T) 66 args S = lendC (evFL T 66) S (lendAll S i66.pes args) := evCall0 fn66 rfl rfl args S
@[simp] theorem callz66 (args : List AV) (S : St) : evCallFz T (evFL T) 66 args S = lendZ (evFL T 66) S i66.res (lendAll S i66.pes args) := evCallFz0 fn66 rfl rfl args S
@[simp] theorem pes66 : i66.pes = [[0]] := rfl
@[simp] theorem body66 : i66.body = c66 := rfl
@[simp] theorem kind66 : i66.kind = 0 := rfl
@[simp] theorem tree66 : i66.tree = false := rfl
@[simp] theorem ntmps66 : i66.ntmps = 5 := rfl
@[simp] theorem results66 : i66.results = [(ResultVar.tmp 2)] := rfl
@[simp] theorem res66 : i66.res = [[0]] := rfl
theorem e66 (a : Int)  : evFL T 66 [.int .i64 a] [] = some (.bool (inR a 1 65535), []) := by
  rw [evFL_at fn66 (by simp)]
  all_goals simp -implicitDefEqProofs [c66, r66_0, r66_1, call91, callz91, e91, -List.getElem?_map, -getElem?_pos, List.getElem?_cons_zero, map_get, upd_ne, frOf_set, frOf_get, frOf_getD]
-- impl.isAddr
@[simp] theorem call99 {m : Nat} (args : List AV) (S : St) : evCall T m (evFL T) 99 args S = lendC (evFL T 99) S (lendAll S i99.pes args) := evCall0 fn99 rfl rfl args S
@[simp] theorem callz99 (args : List AV) (S : St) : evCallFz T (evFL T) 99 args S = lendZ (evFL T 99) S i99.res (lendAll S i99.pes args) := evCallFz0 fn99 rfl rfl args S
@[simp] theorem pes99 : i99.pes = [[0]] := rfl
@[simp] theorem body99 : i99.body = c99 := rfl
@[simp] theorem kind99 : i99.kind = 0 := rfl
@[simp] theorem tree99 : i99.tree = false := rfl
@[simp] theorem ntmps99 : i99.ntmps = 5 := rfl
@[simp] theorem results99 : i99.results = [(ResultVar.tmp 2)] := rfl
@[simp] theorem res99 : i99.res = [[0]] := rfl
theorem e99 (a : Int)  : evFL T 99 [.int .i64 a] [] = some (.bool (inR a 0 4294967295), []) := by
  rw [evFL_at fn99 (by simp)]
  all_goals simp -implicitDefEqProofs [c99, r99_0, r99_1, call91, callz91, e91, -List.getElem?_map, -getElem?_pos, List.getElem?_cons_zero, map_get, upd_ne, frOf_set, frOf_get, frOf_getD]
-- spec.l1Addr
@[simp] theorem call75 {m : Nat} (args : List AV) (S : St) : evCall T m (evFL T) 75 args S = lendC (evFL T 75) S (lendAll S i75.pes args) := evCall0 fn75 rfl rfl args S
@[simp] theorem callz75 (args : List AV) (S : St) : evCallFz T (evFL T) 75 args S = lendZ (evFL T 75) S i75.res (lendAll S i75.pes args) := evCallFz0 fn75 rfl rfl args S
@[simp] theorem pes75 : i75.pes = [[0]] := rfl
@[simp] theorem body75 : i75.body = c75 := rfl
@[simp] theorem kind75 : i75.kind = 0 := rfl
@[simp] theorem tree75 : i75.tree = false := rfl
@[simp] theorem ntmps75 : i75.ntmps = 5 := rfl
@[simp] theorem results75 : i75.results = [(ResultVar.tmp 2)] := rfl
@[simp] theorem res75 : i75.res = [[0]] := rfl
theorem e75 (a : Int)  : evFL T 75 [.int .i64 a] [] = some (.bool (inR a 0 4294967295), []) := by
  rw [evFL_at fn75 (by simp)]
  all_goals simp -implicitDefEqProofs [c75, r75_0, r75_1, call48, callz48, e48, -List.getElem?_map, -getElem?_pos, List.getElem?_cons_zero, map_get, upd_ne, frOf_set, frOf_get, frOf_getD]
-- impl.isPeer
@[simp] theorem call76 {m : Nat} (args : List AV) (S : St) : evCall T m (evFL T) 76 args S = lendC (evFL T 76) S (lendAll S i76.pes args) := evCall0 fn76 rfl rfl args S
@[simp] theorem callz76 (args : List AV) (S : St) : evCallFz T (evFL T) 76 args S = lendZ (evFL T 76) S i76.res (lendAll S i76.pes args) := evCallFz0 fn76 rfl rfl args S
@[simp] theorem pes76 : i76.pes = [[0]] := rfl
@[simp] theorem body76 : i76.body = c76 := rfl
@[simp] theorem kind76 : i76.kind = 0 := rfl
@[simp] theorem tree76 : i76.tree = false := rfl
@[simp] theorem ntmps76 : i76.ntmps = 5 := rfl
@[simp] theorem results76 : i76.results = [(ResultVar.tmp 2)] := rfl
@[simp] theorem res76 : i76.res = [[0]] := rfl
theorem e76 (a : Int)  : evFL T 76 [.int .i64 a] [] = some (.bool (inR a 0 5), []) := by
  rw [evFL_at fn76 (by simp)]
  all_goals simp -implicitDefEqProofs [c76, r76_0, r76_1, call91, callz91, e91, -List.getElem?_map, -getElem?_pos, List.getElem?_cons_zero, map_get, upd_ne, frOf_set, frOf_get, frOf_getD]
def commP (xs : List Int) (j : Nat) : Bool := inR (nth xs j) 0 1000000 && (j == 0 || decide (nth xs (j - 1) < nth xs j))
def commsB (xs : List Int) : Bool := allB xs.length (commP xs) && decide ((xs.length : Int) ≤ 6)
-- impl.areComms
@[simp] theorem call101 {m : Nat} (args : List AV) (S : St) : evCall T m (evFL T) 101 args S = lendC (evFL T 101) S (lendAll S i101.pes args) := evCall0 fn101 rfl rfl args S
@[simp] theorem callz101 (args : List AV) (S : St) : evCallFz T (evFL T) 101 args S = lendZ (evFL T 101) S i101.res (lendAll S i101.pes args) := evCallFz0 fn101 rfl rfl args S
@[simp] theorem pes101 : i101.pes = [[1]] := rfl
@[simp] theorem body101 : i101.body = c101 := rfl
@[simp] theorem kind101 : i101.kind = 0 := rfl
@[simp] theorem tree101 : i101.tree = false := rfl
@[simp] theorem ntmps101 : i101.ntmps = 32 := rfl
@[simp] theorem results101 : i101.results = [(ResultVar.tmp 2)] := rfl
@[simp] theorem res101 : i101.res = [[0]] := rfl
def I101_0 (a : (List Int))  (i : Nat) (fr : Fr) (S : St) : Prop := ∃ f : Nat → AV, fr = frOf 32 f ∧ f 0 = .ts .imm 1 (a.map encInt) ∧ f 5 = .ts .imm 1 (a.map encInt) ∧ f 6 = .int .i64 a.length ∧ f 7 = .int .i64 i ∧ S = [] ∧ allB i (commP a) = true
def R101_0 (a : (List Int))  (r : Option (Ex × Fr × St)) : Prop := (∃ f : Nat → AV, r = some (.ret, frOf 32 f, []) ∧ f 2 = .bool false ∧ allB a.length (commP a) = false) ∨ (∃ f : Nat → AV, r = some (.exit 0, frOf 32 f, []) ∧ f 0 = .ts .imm 1 (a.map encInt) ∧ allB a.length (commP a) = true)
theorem L101_0 (a : (List Int)) (h0 : a.length ≤ 1048576)   : ∀ i fr S, i ≤ a.length → I101_0 a  i fr S → R101_0 a  (evCL T 0 (.loop l101_0) fr S) := by
  refine loopQ _ _ _ ?_ ?_
  · rintro i fr S hi ⟨f, rfl, t0, t5, t6, t7, rfl, hf⟩
    have hwi : IntKind.i64.wrap ((i : Int) + 1) = (i : Int) + 1 := wrap64 (by omega) (by omega)
    rcases i with _ | i
    · by_cases hc : inR (nth a 0) 0 1000000 = true
      · simp -implicitDefEqProofs [r101_0, r101_1, r101_2, r101_3, r101_4, r101_5, r101_6, r101_7, l101_0, h0, call100, callz100, e100, -List.getElem?_map, -getElem?_pos, List.getElem?_cons_zero, map_get, upd_ne, frOf_set, frOf_get, frOf_getD, encInt, t0, t5, t6, t7, hi, hwi, hc]
        refine .go _ _ ⟨_, rfl, (by first | rfl | assumption | simp [upd, *]), (by first | rfl | assumption | simp [upd, *]), (by first | rfl | assumption | simp [upd, *]), (by first | rfl | assumption | simp [upd, *]), rfl, ?_⟩; simp [allB_succ, commP, hc]
      · simp -implicitDefEqProofs [r101_0, r101_1, r101_2, r101_3, r101_4, r101_5, r101_6, r101_7, l101_0, h0, call100, callz100, e100, -List.getElem?_map, -getElem?_pos, List.getElem?_cons_zero, map_get, upd_ne, frOf_set, frOf_get, frOf_getD, encInt, t0, t5, t6, t7, hi, hwi, hc]
        refine .ret _ _ (Or.inl ⟨_, rfl, (by first | rfl | assumption | simp [upd, *]), ?_⟩); exact allB_no hi (by simp [commP, hc])
    · have hs : (i : Int) + 1 < (a.length : Int) := by omega
      have hz : (0 : Int) ≤ (i : Int) + 1 := by omega
      have hp : (0 : Int) < (i : Int) + 1 := by omega
      have hw0 : IntKind.i64.wrap (i : Int) = (i : Int) := wrap64 (by omega) (by omega)
      have hw1 : IntKind.i64.wrap ((i : Int) + 1 + 1) = (i : Int) + 1 + 1 := wrap64 (by omega) (by omega)
      have hi2 := Nat.lt_of_succ_lt hi
      by_cases hc : inR (nth a (i + 1)) 0 1000000 = true
      · by_cases hd : nth a (i + 1) ≤ nth a i
        · simp -implicitDefEqProofs [r101_0, r101_1, r101_2, r101_3, r101_4, r101_5, r101_6, r101_7, l101_0, h0, call100, callz100, e100, -List.getElem?_map, -getElem?_pos, List.getElem?_cons_zero, map_get, upd_ne, frOf_set, frOf_get, frOf_getD, encInt, t0, t5, t6, t7, hi, hi2, hs, hz, hp, hw0, hw1, hwi, hc, hd]
          refine .ret _ _ (Or.inl ⟨_, rfl, (by first | rfl | assumption | simp [upd, *]), ?_⟩); exact allB_no hi (by simp [commP]; omega)
        · simp -implicitDefEqProofs [r101_0, r101_1, r101_2, r101_3, r101_4, r101_5, r101_6, r101_7, l101_0, h0, call100, callz100, e100, -List.getElem?_map, -getElem?_pos, List.getElem?_cons_zero, map_get, upd_ne, frOf_set, frOf_get, frOf_getD, encInt, t0, t5, t6, t7, hi, hi2, hs, hz, hp, hw0, hw1, hwi, hc, hd]
          refine .go _ _ ⟨_, rfl, (by first | rfl | assumption | simp [upd, *]), (by first | rfl | assumption | simp [upd, *]), (by first | rfl | assumption | simp [upd, *]), (by first | rfl | assumption | simp [upd, *]), rfl, ?_⟩; simp [allB_succ, commP, hc] at hf ⊢; simp [hf]; omega
      · simp -implicitDefEqProofs [r101_0, r101_1, r101_2, r101_3, r101_4, r101_5, r101_6, r101_7, l101_0, h0, call100, callz100, e100, -List.getElem?_map, -getElem?_pos, List.getElem?_cons_zero, map_get, upd_ne, frOf_set, frOf_get, frOf_getD, encInt, t0, t5, t6, t7, hi, hi2, hs, hz, hp, hw0, hw1, hwi, hc]
        refine .ret _ _ (Or.inl ⟨_, rfl, (by first | rfl | assumption | simp [upd, *]), ?_⟩); exact allB_no hi (by simp [commP, hc])
  · rintro fr S ⟨f, rfl, t0, t5, t6, t7, rfl, hf⟩
    simp -implicitDefEqProofs [r101_0, r101_1, r101_2, r101_3, r101_4, r101_5, r101_6, r101_7, l101_0, h0, call100, callz100, e100, -List.getElem?_map, -getElem?_pos, List.getElem?_cons_zero, map_get, upd_ne, frOf_set, frOf_get, frOf_getD, encInt, t0, t5, t6, t7]
    refine .exit _ _ _ (Or.inr ⟨_, rfl, (by first | rfl | assumption | simp [upd, *]), ?_⟩)
    first | trivial | assumption | simp [*]
theorem e101 (a : (List Int)) (h0 : a.length ≤ 1048576) : evFL T 101 [.ts .imm 1 (a.map encInt)] [] = some (.bool (commsB a), []) := by
  rw [evFL_at fn101 (by simp)]
  simp -implicitDefEqProofs [c101, r101_0, r101_1, r101_2, r101_3, r101_4, r101_5, r101_6, r101_7, h0, call100, callz100, e100, -List.getElem?_map, -getElem?_pos, List.getElem?_cons_zero, map_get, upd_ne, frOf_set, frOf_get, frOf_getD, encInt]
  generalize hr : evCL T 0 (.loop l101_0) _ _ = r
  have h : R101_0 a  r := by rw [← hr]; exact L101_0 a h0  (0) _ _ (by omega) ⟨_, rfl, (by simp [upd, *]), (by simp [upd, *]), (by simp [upd, *]), (by simp [upd, *]), rfl, by first | trivial | assumption | simp⟩
  clear hr
  rcases h with h | h
  · obtain ⟨f0, rfl, u0_2, hf0⟩ := h
    simp -implicitDefEqProofs [r101_0, r101_1, r101_2, r101_3, r101_4, r101_5, r101_6, r101_7, h0, call100, callz100, e100, -List.getElem?_map, -getElem?_pos, List.getElem?_cons_zero, map_get, upd_ne, frOf_set, frOf_get, frOf_getD, encInt, u0_2, hf0, commsB]
  obtain ⟨f0, rfl, u0_0, hf0⟩ := h
  simp -implicitDefEqProofs [r101_0, r101_1, r101_2, r101_3, r101_4, r101_5, r101_6, r101_7, h0, call100, callz100, e100, -List.getElem?_map, -getElem?_pos, List.getElem?_cons_zero, map_get, upd_ne, frOf_set, frOf_get, frOf_getD, encInt, u0_0, hf0, commsB]
theorem fset80 {a : (List Int)} {i : Nat} (h : i < a.length) : (filled encInt [.int .i64 0] a i).set i [.int .i64 (nth a i)] = filled encInt [.int .i64 0] a (i + 1) := filled_set h
-- laws.toIntS
@[simp] theorem call80 {m : Nat} (args : List AV) (S : St) : evCall T m (evFL T) 80 args S = lendC (evFL T 80) S (lendAll S i80.pes args) := evCall0 fn80 rfl rfl args S
@[simp] theorem callz80 (args : List AV) (S : St) : evCallFz T (evFL T) 80 args S = lendZ (evFL T 80) S i80.res (lendAll S i80.pes args) := evCallFz0 fn80 rfl rfl args S
@[simp] theorem pes80 : i80.pes = [[1]] := rfl
@[simp] theorem body80 : i80.body = c80 := rfl
@[simp] theorem kind80 : i80.kind = 0 := rfl
@[simp] theorem tree80 : i80.tree = false := rfl
@[simp] theorem ntmps80 : i80.ntmps = 22 := rfl
@[simp] theorem results80 : i80.results = [(ResultVar.tmp 2)] := rfl
@[simp] theorem res80 : i80.res = [[1]] := rfl
def I80_0 (a : (List Int))  (i : Nat) (fr : Fr) (S : St) : Prop := ∃ f : Nat → AV, fr = frOf 22 f ∧ f 0 = .ts .imm 1 (a.map encInt) ∧ f 3 = .sl 0 0 a.length ∧ f 4 = .int .i64 i ∧ S = [some ⟨.arr, 1, filled encInt [.int .i64 0] a i⟩] ∧ True
def R80_0 (a : (List Int))  (r : Option (Ex × Fr × St)) : Prop := (∃ f : Nat → AV, r = some (.exit 0, frOf 22 f, [some ⟨.arr, 1, filled encInt [.int .i64 0] a a.length⟩]) ∧ f 3 = .sl 0 0 a.length ∧ True)
theorem L80_0 (a : (List Int)) (ha0 : a.length ≤ 1048576)   : ∀ i fr S, i ≤ a.length → I80_0 a  i fr S → R80_0 a  (evCL T 0 (.loop l80_0) fr S) := by
  refine loopQ _ _ _ ?_ ?_
  · rintro i fr S hi ⟨f, rfl, t0, t3, t4, rfl, hf⟩
    have hm : (a.length : Int) ≤ 4294967296 := by omega
    have hm1 : a.length ≤ 4294967296 := by omega
    have hwi : IntKind.i64.wrap ((i : Int) + 1) = (i : Int) + 1 := wrap64 (by omega) (by omega)
    all_goals simp -implicitDefEqProofs [r80_0, r80_1, r80_2, r80_3, r80_4, r80_5, r80_6, l80_0, ha0, -List.getElem?_map, -getElem?_pos, List.getElem?_cons_zero, map_get, upd_ne, frOf_set, frOf_get, frOf_getD, encInt, hm, hm1, fset80, filled_get, t0, t3, t4, hi, hwi]
    all_goals first | (refine .go _ _ ⟨_, rfl, (by first | rfl | assumption | simp [upd, *]), (by first | rfl | assumption | simp [upd, *]), (by first | rfl | assumption | simp [upd, *]), rfl, ?_⟩; first | trivial | assumption | simp [*]) | (refine .exit _ _ _ ⟨_, rfl, (by first | rfl | assumption | simp [upd, *]), ?_⟩; first | trivial | assumption | simp [*])
  · rintro fr S ⟨f, rfl, t0, t3, t4, rfl, hf⟩
    have hm : (a.length : Int) ≤ 4294967296 := by omega
    have hm1 : a.length ≤ 4294967296 := by omega
    simp -implicitDefEqProofs [r80_0, r80_1, r80_2, r80_3, r80_4, r80_5, r80_6, l80_0, ha0, -List.getElem?_map, -getElem?_pos, List.getElem?_cons_zero, map_get, upd_ne, frOf_set, frOf_get, frOf_getD, encInt, hm, hm1, fset80, filled_get, t0, t3, t4]
    refine .exit _ _ _ ⟨_, rfl, (by first | rfl | assumption | simp [upd, *]), ?_⟩
    first | trivial | assumption | simp [*]
theorem e80 (a : (List Int)) (ha0 : a.length ≤ 1048576) : evFL T 80 [.ts .imm 1 (a.map encInt)] [] = some (.sl 0 0 a.length, [some ⟨.arr, 1, a.map encInt⟩]) := by
  rw [evFL_at fn80 (by simp)]
  have hm : (a.length : Int) ≤ 4294967296 := by omega
  have hm1 : a.length ≤ 4294967296 := by omega
  simp -implicitDefEqProofs [c80, r80_0, r80_1, r80_2, r80_3, r80_4, r80_5, r80_6, ha0, -List.getElem?_map, -getElem?_pos, List.getElem?_cons_zero, map_get, upd_ne, frOf_set, frOf_get, frOf_getD, encInt, hm, hm1]
  generalize hr : evCL T 0 (.loop l80_0) _ _ = r
  have h : R80_0 a  r := by rw [← hr]; exact L80_0 a ha0  (0) _ _ (by omega) ⟨_, rfl, (by simp [upd, *]), (by simp [upd, *]), (by simp [upd, *]), by simp [← filled_zero], by first | trivial | assumption | simp⟩
  clear hr
  obtain ⟨f0, rfl, u0_3, hf0⟩ := h
  simp -implicitDefEqProofs [r80_0, r80_1, r80_2, r80_3, r80_4, r80_5, r80_6, ha0, -List.getElem?_map, -getElem?_pos, List.getElem?_cons_zero, map_get, upd_ne, frOf_set, frOf_get, frOf_getD, encInt, hm, hm1, u0_3, hf0, filled_end]
-- laws.eqIntS
@[simp] theorem call33 {m : Nat} (args : List AV) (S : St) : evCall T m (evFL T) 33 args S = lendC (evFL T 33) S (lendAll S i33.pes args) := evCall0 fn33 rfl rfl args S
@[simp] theorem callz33 (args : List AV) (S : St) : evCallFz T (evFL T) 33 args S = lendZ (evFL T 33) S i33.res (lendAll S i33.pes args) := evCallFz0 fn33 rfl rfl args S
@[simp] theorem pes33 : i33.pes = [[1], [1]] := rfl
@[simp] theorem body33 : i33.body = c33 := rfl
@[simp] theorem kind33 : i33.kind = 0 := rfl
@[simp] theorem tree33 : i33.tree = false := rfl
@[simp] theorem ntmps33 : i33.ntmps = 26 := rfl
@[simp] theorem results33 : i33.results = [(ResultVar.tmp 4)] := rfl
@[simp] theorem res33 : i33.res = [[0]] := rfl
def I33_0 (a : (List Int))  (i : Nat) (fr : Fr) (S : St) : Prop := ∃ f : Nat → AV, fr = frOf 26 f ∧ f 0 = .ts .imm 1 (a.map encInt) ∧ f 1 = .ts .imm 1 (a.map encInt) ∧ f 5 = .int .i64 i ∧ S = [] ∧ True
def R33_0 (a : (List Int))  (r : Option (Ex × Fr × St)) : Prop := (∃ f : Nat → AV, r = some (.exit 0, frOf 26 f, []) ∧ True)
theorem L33_0 (a : (List Int)) (ha0 : a.length ≤ 1048576)   : ∀ i fr S, i ≤ a.length → I33_0 a  i fr S → R33_0 a  (evCL T 0 (.loop l33_0) fr S) := by
  refine loopQ _ _ _ ?_ ?_
  · rintro i fr S hi ⟨f, rfl, t0, t1, t5, rfl, hf⟩
    have hwi : IntKind.i64.wrap ((i : Int) + 1) = (i : Int) + 1 := wrap64 (by omega) (by omega)
    all_goals simp -implicitDefEqProofs [r33_0, r33_1, r33_2, r33_3, r33_4, r33_5, r33_6, r33_7, r33_8, l33_0, ha0, -List.getElem?_map, -getElem?_pos, List.getElem?_cons_zero, map_get, upd_ne, frOf_set, frOf_get, frOf_getD, encInt, t0, t1, t5, hi, hwi]
    all_goals first | (refine .go _ _ ⟨_, rfl, (by first | rfl | assumption | simp [upd, *]), (by first | rfl | assumption | simp [upd, *]), (by first | rfl | assumption | simp [upd, *]), rfl, ?_⟩; first | trivial | assumption | simp [*]) | (refine .exit _ _ _ ⟨_, rfl, ?_⟩; first | trivial | assumption | simp [*])
  · rintro fr S ⟨f, rfl, t0, t1, t5, rfl, hf⟩
    simp -implicitDefEqProofs [r33_0, r33_1, r33_2, r33_3, r33_4, r33_5, r33_6, r33_7, r33_8, l33_0, ha0, -List.getElem?_map, -getElem?_pos, List.getElem?_cons_zero, map_get, upd_ne, frOf_set, frOf_get, frOf_getD, encInt, t0, t1, t5]
    refine .exit _ _ _ ⟨_, rfl, ?_⟩
    first | trivial | assumption | simp [*]
theorem e33 (a : (List Int)) (ha0 : a.length ≤ 1048576) : evFL T 33 [.ts .imm 1 (a.map encInt), .ts .imm 1 (a.map encInt)] [] = some (.bool true, []) := by
  rw [evFL_at fn33 (by simp)]
  simp -implicitDefEqProofs [c33, r33_0, r33_1, r33_2, r33_3, r33_4, r33_5, r33_6, r33_7, r33_8, ha0, -List.getElem?_map, -getElem?_pos, List.getElem?_cons_zero, map_get, upd_ne, frOf_set, frOf_get, frOf_getD, encInt]
  generalize hr : evCL T 0 (.loop l33_0) _ _ = r
  have h : R33_0 a  r := by rw [← hr]; exact L33_0 a ha0  (0) _ _ (by omega) ⟨_, rfl, (by simp [upd, *]), (by simp [upd, *]), (by simp [upd, *]), rfl, by first | trivial | assumption | simp⟩
  clear hr
  obtain ⟨f0, rfl, hf0⟩ := h
  simp -implicitDefEqProofs [r33_0, r33_1, r33_2, r33_3, r33_4, r33_5, r33_6, r33_7, r33_8, ha0, -List.getElem?_map, -getElem?_pos, List.getElem?_cons_zero, map_get, upd_ne, frOf_set, frOf_get, frOf_getD, encInt, hf0] <;> try omega
-- laws.toAttrs
@[simp] theorem call53 {m : Nat} (args : List AV) (S : St) : evCall T m (evFL T) 53 args S = lendC (evFL T 53) S (lendAll S i53.pes args) := evCall0 fn53 rfl rfl args S
@[simp] theorem callz53 (args : List AV) (S : St) : evCallFz T (evFL T) 53 args S = lendZ (evFL T 53) S i53.res (lendAll S i53.pes args) := evCallFz0 fn53 rfl rfl args S
@[simp] theorem pes53 : i53.pes = [[0, 1, 0, 0, 0, 1]] := rfl
@[simp] theorem body53 : i53.body = c53 := rfl
@[simp] theorem kind53 : i53.kind = 0 := rfl
@[simp] theorem tree53 : i53.tree = false := rfl
@[simp] theorem ntmps53 : i53.ntmps = 25 := rfl
@[simp] theorem results53 : i53.results = [(ResultVar.cell 2 37)] := rfl
@[simp] theorem res53 : i53.res = [[0, 1, 0, 0, 0, 1]] := rfl
theorem e53 (a_origin : Int) (a_path : (List Int)) (a_next : Int) (a_med : Int) (a_pref : Int) (a_comms : (List Int)) (ha0 : a_path.length ≤ 1048576) (ha1 : a_comms.length ≤ 1048576) : evFL T 53 [.agg [.int .i64 a_origin, .ts .imm 1 (a_path.map encInt), .int .i64 a_next, .int .i64 a_med, .int .i64 a_pref, .ts .imm 1 (a_comms.map encInt)]] [] = some (.agg [.int .i64 a_origin, .sl 0 0 a_path.length, .int .i64 a_next, .int .i64 a_med, .int .i64 a_pref, .sl 1 0 a_comms.length], [some ⟨.arr, 1, a_path.map encInt⟩, some ⟨.arr, 1, a_comms.map encInt⟩]) := by
  rw [evFL_at fn53 (by simp)]
  all_goals simp -implicitDefEqProofs [c53, r53_0, r53_1, r53_2, r53_3, r53_4, r53_5, r53_6, r53_7, r53_8, ha0, ha1, call80, callz80, e80, -List.getElem?_map, -getElem?_pos, List.getElem?_cons_zero, map_get, upd_ne, frOf_set, frOf_get, frOf_getD]
-- laws.toOffer
@[simp] theorem call19 {m : Nat} (args : List AV) (S : St) : evCall T m (evFL T) 19 args S = lendC (evFL T 19) S (lendAll S i19.pes args) := evCall0 fn19 rfl rfl args S
@[simp] theorem callz19 (args : List AV) (S : St) : evCallFz T (evFL T) 19 args S = lendZ (evFL T 19) S i19.res (lendAll S i19.pes args) := evCallFz0 fn19 rfl rfl args S
@[simp] theorem pes19 : i19.pes = [[0, 0, 1, 0, 0, 0, 1]] := rfl
@[simp] theorem body19 : i19.body = c19 := rfl
@[simp] theorem kind19 : i19.kind = 0 := rfl
@[simp] theorem tree19 : i19.tree = false := rfl
@[simp] theorem ntmps19 : i19.ntmps = 12 := rfl
@[simp] theorem results19 : i19.results = [(ResultVar.cell 2 39)] := rfl
@[simp] theorem res19 : i19.res = [[0, 0, 1, 0, 0, 0, 1]] := rfl
theorem e19 (a_peer : Int) (a_attrs_origin : Int) (a_attrs_path : (List Int)) (a_attrs_next : Int) (a_attrs_med : Int) (a_attrs_pref : Int) (a_attrs_comms : (List Int)) (ha0 : a_attrs_path.length ≤ 1048576) (ha1 : a_attrs_comms.length ≤ 1048576) : evFL T 19 [.agg [.int .i64 a_peer, .int .i64 a_attrs_origin, .ts .imm 1 (a_attrs_path.map encInt), .int .i64 a_attrs_next, .int .i64 a_attrs_med, .int .i64 a_attrs_pref, .ts .imm 1 (a_attrs_comms.map encInt)]] [] = some (.agg [.int .i64 a_peer, .int .i64 a_attrs_origin, .sl 0 0 a_attrs_path.length, .int .i64 a_attrs_next, .int .i64 a_attrs_med, .int .i64 a_attrs_pref, .sl 1 0 a_attrs_comms.length], [some ⟨.arr, 1, a_attrs_path.map encInt⟩, some ⟨.arr, 1, a_attrs_comms.map encInt⟩]) := by
  rw [evFL_at fn19 (by simp)]
  all_goals simp -implicitDefEqProofs [c19, r19_0, r19_1, r19_2, r19_3, r19_4, ha0, ha1, call53, callz53, e53, -List.getElem?_map, -getElem?_pos, List.getElem?_cons_zero, map_get, upd_ne, frOf_set, frOf_get, frOf_getD]
theorem fset14 {a : (List Offer)} {i : Nat} (h : i < a.length) : (filled (encOffer .own) [.int .i64 0, .int .i64 0, .ts .own 1 [], .int .i64 0, .int .i64 0, .int .i64 0, .ts .own 1 []] a i).set i [.int .i64 (nth a i).peer, .int .i64 (nth a i).attrs.origin, .ts .own 1 ((nth a i).attrs.path.map encInt), .int .i64 (nth a i).attrs.next, .int .i64 (nth a i).attrs.med, .int .i64 (nth a i).attrs.pref, .ts .own 1 ((nth a i).attrs.comms.map encInt)] = filled (encOffer .own) [.int .i64 0, .int .i64 0, .ts .own 1 [], .int .i64 0, .int .i64 0, .int .i64 0, .ts .own 1 []] a (i + 1) := filled_set h
-- laws.toOfferS
@[simp] theorem call14 {m : Nat} (args : List AV) (S : St) : evCall T m (evFL T) 14 args S = lendC (evFL T 14) S (lendAll S i14.pes args) := evCall0 fn14 rfl rfl args S
@[simp] theorem callz14 (args : List AV) (S : St) : evCallFz T (evFL T) 14 args S = lendZ (evFL T 14) S i14.res (lendAll S i14.pes args) := evCallFz0 fn14 rfl rfl args S
@[simp] theorem pes14 : i14.pes = [[7]] := rfl
@[simp] theorem body14 : i14.body = c14 := rfl
@[simp] theorem kind14 : i14.kind = 0 := rfl
@[simp] theorem tree14 : i14.tree = false := rfl
@[simp] theorem ntmps14 : i14.ntmps = 23 := rfl
@[simp] theorem results14 : i14.results = [(ResultVar.tmp 2)] := rfl
@[simp] theorem res14 : i14.res = [[7]] := rfl
def I14_0 (a : (List Offer))  (i : Nat) (fr : Fr) (S : St) : Prop := ∃ f : Nat → AV, ∃ G : St, fr = frOf 23 f ∧ f 0 = .ts .imm 7 (a.map (encOffer .imm)) ∧ f 3 = .sl 0 0 a.length ∧ f 4 = .int .i64 i ∧ S = some ⟨.arr, 7, filled (encOffer .own) [.int .i64 0, .int .i64 0, .ts .own 1 [], .int .i64 0, .int .i64 0, .int .i64 0, .ts .own 1 []] a i⟩ :: G ∧ True
def R14_0 (a : (List Offer))  (r : Option (Ex × Fr × St)) : Prop := (∃ f : Nat → AV, ∃ G : St, r = some (.exit 0, frOf 23 f, some ⟨.arr, 7, filled (encOffer .own) [.int .i64 0, .int .i64 0, .ts .own 1 [], .int .i64 0, .int .i64 0, .int .i64 0, .ts .own 1 []] a a.length⟩ :: G) ∧ f 3 = .sl 0 0 a.length ∧ True)
theorem L14_0 (a : (List Offer)) (ha0 : a.length ≤ 1048576) (ha1 : ∀ y ∈ a, smOffer y)   : ∀ i fr S, i ≤ a.length → I14_0 a  i fr S → R14_0 a  (evCL T 0 (.loop l14_0) fr S) := by
  refine loopQ _ _ _ ?_ ?_
  · rintro i fr S hi ⟨f, G, rfl, t0, t3, t4, rfl, hf⟩
    have hm : (a.length : Int) ≤ 4294967296 := by omega
    have hm1 : a.length ≤ 4294967296 := by omega
    have hwi : IntKind.i64.wrap ((i : Int) + 1) = (i : Int) + 1 := wrap64 (by omega) (by omega)
    have hy := ha1 (nth a i) (nth_mem hi)
    simp only [smOffer] at hy
    obtain ⟨hy0, hy1⟩ := hy
    all_goals simp -implicitDefEqProofs [r14_0, r14_1, r14_2, r14_3, r14_4, r14_5, r14_6, l14_0, ha0, ha1, call19, callz19, e19, -List.getElem?_map, -getElem?_pos, List.getElem?_cons_zero, map_get, upd_ne, frOf_set, frOf_get, frOf_getD, encOffer, hm, hm1, fset14, filled_get, t0, t3, t4, hi, hwi, hy0, hy1]
    all_goals first | (refine .go _ _ ⟨_, _, rfl, (by first | rfl | assumption | simp [upd, *]), (by first | rfl | assumption | simp [upd, *]), (by first | rfl | assumption | simp [upd, *]), rfl, ?_⟩; first | trivial | assumption | simp [*]) | (refine .exit _ _ _ ⟨_, _, rfl, (by first | rfl | assumption | simp [upd, *]), ?_⟩; first | trivial | assumption | simp [*])
  · rintro fr S ⟨f, G, rfl, t0, t3, t4, rfl, hf⟩
    have hm : (a.length : Int) ≤ 4294967296 := by omega
    have hm1 : a.length ≤ 4294967296 := by omega
    simp -implicitDefEqProofs [r14_0, r14_1, r14_2, r14_3, r14_4, r14_5, r14_6, l14_0, ha0, ha1, call19, callz19, e19, -List.getElem?_map, -getElem?_pos, List.getElem?_cons_zero, map_get, upd_ne, frOf_set, frOf_get, frOf_getD, encOffer, hm, hm1, fset14, filled_get, t0, t3, t4]
    refine .exit _ _ _ ⟨_, _, rfl, (by first | rfl | assumption | simp [upd, *]), ?_⟩
    first | trivial | assumption | simp [*]
theorem e14 (a : (List Offer)) (ha0 : a.length ≤ 1048576) (ha1 : ∀ y ∈ a, smOffer y) : evFL T 14 [.ts .imm 7 (a.map (encOffer .imm))] [] = some (.sl 0 0 a.length, [some ⟨.arr, 7, a.map (encOffer .own)⟩]) := by
  rw [evFL_at fn14 (by simp)]
  have hm : (a.length : Int) ≤ 4294967296 := by omega
  have hm1 : a.length ≤ 4294967296 := by omega
  simp -implicitDefEqProofs [c14, r14_0, r14_1, r14_2, r14_3, r14_4, r14_5, r14_6, ha0, ha1, call19, callz19, e19, -List.getElem?_map, -getElem?_pos, List.getElem?_cons_zero, map_get, upd_ne, frOf_set, frOf_get, frOf_getD, encOffer, hm, hm1]
  generalize hr : evCL T 0 (.loop l14_0) _ _ = r
  have h : R14_0 a  r := by rw [← hr]; exact L14_0 a ha0 ha1  (0) _ _ (by omega) ⟨_, _, rfl, (by simp [upd, *]), (by simp [upd, *]), (by simp [upd, *]), by simp [← filled_zero]; rfl, by first | trivial | assumption | simp⟩
  clear hr
  obtain ⟨f0, G, rfl, u0_3, hf0⟩ := h
  simp -implicitDefEqProofs [r14_0, r14_1, r14_2, r14_3, r14_4, r14_5, r14_6, ha0, ha1, call19, callz19, e19, -List.getElem?_map, -getElem?_pos, List.getElem?_cons_zero, map_get, upd_ne, frOf_set, frOf_get, frOf_getD, encOffer, hm, hm1, u0_3, hf0, filled_end]
-- laws.eqAttrs
@[simp] theorem call55 {m : Nat} (args : List AV) (S : St) : evCall T m (evFL T) 55 args S = lendC (evFL T 55) S (lendAll S i55.pes args) := evCall0 fn55 rfl rfl args S
@[simp] theorem callz55 (args : List AV) (S : St) : evCallFz T (evFL T) 55 args S = lendZ (evFL T 55) S i55.res (lendAll S i55.pes args) := evCallFz0 fn55 rfl rfl args S
@[simp] theorem pes55 : i55.pes = [[0, 1, 0, 0, 0, 1], [0, 1, 0, 0, 0, 1]] := rfl
@[simp] theorem body55 : i55.body = c55 := rfl
@[simp] theorem kind55 : i55.kind = 0 := rfl
@[simp] theorem tree55 : i55.tree = false := rfl
@[simp] theorem ntmps55 : i55.ntmps = 37 := rfl
@[simp] theorem results55 : i55.results = [(ResultVar.tmp 4)] := rfl
@[simp] theorem res55 : i55.res = [[0]] := rfl
theorem e55 (a_origin : Int) (a_path : (List Int)) (a_next : Int) (a_med : Int) (a_pref : Int) (a_comms : (List Int)) (ha0 : a_path.length ≤ 1048576) (ha1 : a_comms.length ≤ 1048576) : evFL T 55 [.agg [.int .i64 a_origin, .ts .imm 1 (a_path.map encInt), .int .i64 a_next, .int .i64 a_med, .int .i64 a_pref, .ts .imm 1 (a_comms.map encInt)], .agg [.int .i64 a_origin, .ts .imm 1 (a_path.map encInt), .int .i64 a_next, .int .i64 a_med, .int .i64 a_pref, .ts .imm 1 (a_comms.map encInt)]] [] = some (.bool true, []) := by
  rw [evFL_at fn55 (by simp)]
  all_goals simp -implicitDefEqProofs [c55, r55_0, r55_1, r55_2, r55_3, r55_4, r55_5, r55_6, r55_7, r55_8, r55_9, r55_10, r55_11, r55_12, r55_13, ha0, ha1, call33, callz33, e33, -List.getElem?_map, -getElem?_pos, List.getElem?_cons_zero, map_get, upd_ne, frOf_set, frOf_get, frOf_getD]
-- laws.eqOffer
@[simp] theorem call21 {m : Nat} (args : List AV) (S : St) : evCall T m (evFL T) 21 args S = lendC (evFL T 21) S (lendAll S i21.pes args) := evCall0 fn21 rfl rfl args S
@[simp] theorem callz21 (args : List AV) (S : St) : evCallFz T (evFL T) 21 args S = lendZ (evFL T 21) S i21.res (lendAll S i21.pes args) := evCallFz0 fn21 rfl rfl args S
@[simp] theorem pes21 : i21.pes = [[0, 0, 1, 0, 0, 0, 1], [0, 0, 1, 0, 0, 0, 1]] := rfl
@[simp] theorem body21 : i21.body = c21 := rfl
@[simp] theorem kind21 : i21.kind = 0 := rfl
@[simp] theorem tree21 : i21.tree = false := rfl
@[simp] theorem ntmps21 : i21.ntmps = 16 := rfl
@[simp] theorem results21 : i21.results = [(ResultVar.tmp 4)] := rfl
@[simp] theorem res21 : i21.res = [[0]] := rfl
theorem e21 (a_peer : Int) (a_attrs_origin : Int) (a_attrs_path : (List Int)) (a_attrs_next : Int) (a_attrs_med : Int) (a_attrs_pref : Int) (a_attrs_comms : (List Int)) (ha0 : a_attrs_path.length ≤ 1048576) (ha1 : a_attrs_comms.length ≤ 1048576) : evFL T 21 [.agg [.int .i64 a_peer, .int .i64 a_attrs_origin, .ts .imm 1 (a_attrs_path.map encInt), .int .i64 a_attrs_next, .int .i64 a_attrs_med, .int .i64 a_attrs_pref, .ts .imm 1 (a_attrs_comms.map encInt)], .agg [.int .i64 a_peer, .int .i64 a_attrs_origin, .ts .imm 1 (a_attrs_path.map encInt), .int .i64 a_attrs_next, .int .i64 a_attrs_med, .int .i64 a_attrs_pref, .ts .imm 1 (a_attrs_comms.map encInt)]] [] = some (.bool true, []) := by
  rw [evFL_at fn21 (by simp)]
  all_goals simp -implicitDefEqProofs [c21, r21_0, r21_1, r21_2, r21_3, r21_4, r21_5, ha0, ha1, call55, callz55, e55, -List.getElem?_map, -getElem?_pos, List.getElem?_cons_zero, map_get, upd_ne, frOf_set, frOf_get, frOf_getD]
-- laws.eqOfferS
@[simp] theorem call16 {m : Nat} (args : List AV) (S : St) : evCall T m (evFL T) 16 args S = lendC (evFL T 16) S (lendAll S i16.pes args) := evCall0 fn16 rfl rfl args S
@[simp] theorem callz16 (args : List AV) (S : St) : evCallFz T (evFL T) 16 args S = lendZ (evFL T 16) S i16.res (lendAll S i16.pes args) := evCallFz0 fn16 rfl rfl args S
@[simp] theorem pes16 : i16.pes = [[7], [7]] := rfl
@[simp] theorem body16 : i16.body = c16 := rfl
@[simp] theorem kind16 : i16.kind = 0 := rfl
@[simp] theorem tree16 : i16.tree = false := rfl
@[simp] theorem ntmps16 : i16.ntmps = 27 := rfl
@[simp] theorem results16 : i16.results = [(ResultVar.tmp 4)] := rfl
@[simp] theorem res16 : i16.res = [[0]] := rfl
def I16_0 (a : (List Offer))  (i : Nat) (fr : Fr) (S : St) : Prop := ∃ f : Nat → AV, fr = frOf 27 f ∧ f 0 = .ts .imm 7 (a.map (encOffer .imm)) ∧ f 1 = .ts .imm 7 (a.map (encOffer .imm)) ∧ f 5 = .int .i64 i ∧ S = [] ∧ True
def R16_0 (a : (List Offer))  (r : Option (Ex × Fr × St)) : Prop := (∃ f : Nat → AV, r = some (.exit 0, frOf 27 f, []) ∧ True)
theorem L16_0 (a : (List Offer)) (ha0 : a.length ≤ 1048576) (ha1 : ∀ y ∈ a, smOffer y)   : ∀ i fr S, i ≤ a.length → I16_0 a  i fr S → R16_0 a  (evCL T 0 (.loop l16_0) fr S) := by
  refine loopQ _ _ _ ?_ ?_
  · rintro i fr S hi ⟨f, rfl, t0, t1, t5, rfl, hf⟩
    have hwi : IntKind.i64.wrap ((i : Int) + 1) = (i : Int) + 1 := wrap64 (by omega) (by omega)
    have hy := ha1 (nth a i) (nth_mem hi)
    simp only [smOffer] at hy
    obtain ⟨hy0, hy1⟩ := hy
    all_goals simp -implicitDefEqProofs [r16_0, r16_1, r16_2, r16_3, r16_4, r16_5, r16_6, r16_7, r16_8, l16_0, ha0, ha1, call21, callz21, e21, -List.getElem?_map, -getElem?_pos, List.getElem?_cons_zero, map_get, upd_ne, frOf_set, frOf_get, frOf_getD, encOffer, t0, t1, t5, hi, hwi, hy0, hy1]
    all_goals first | (refine .go _ _ ⟨_, rfl, (by first | rfl | assumption | simp [upd, *]), (by first | rfl | assumption | simp [upd, *]), (by first | rfl | assumption | simp [upd, *]), rfl, ?_⟩; first | trivial | assumption | simp [*]) | (refine .exit _ _ _ ⟨_, rfl, ?_⟩; first | trivial | assumption | simp [*])
  · rintro fr S ⟨f, rfl, t0, t1, t5, rfl, hf⟩
    simp -implicitDefEqProofs [r16_0, r16_1, r16_2, r16_3, r16_4, r16_5, r16_6, r16_7, r16_8, l16_0, ha0, ha1, call21, callz21, e21, -List.getElem?_map, -getElem?_pos, List.getElem?_cons_zero, map_get, upd_ne, frOf_set, frOf_get, frOf_getD, encOffer, t0, t1, t5]
    refine .exit _ _ _ ⟨_, rfl, ?_⟩
    first | trivial | assumption | simp [*]
theorem e16 (a : (List Offer)) (ha0 : a.length ≤ 1048576) (ha1 : ∀ y ∈ a, smOffer y) : evFL T 16 [.ts .imm 7 (a.map (encOffer .imm)), .ts .imm 7 (a.map (encOffer .imm))] [] = some (.bool true, []) := by
  rw [evFL_at fn16 (by simp)]
  simp -implicitDefEqProofs [c16, r16_0, r16_1, r16_2, r16_3, r16_4, r16_5, r16_6, r16_7, r16_8, ha0, ha1, call21, callz21, e21, -List.getElem?_map, -getElem?_pos, List.getElem?_cons_zero, map_get, upd_ne, frOf_set, frOf_get, frOf_getD, encOffer]
  generalize hr : evCL T 0 (.loop l16_0) _ _ = r
  have h : R16_0 a  r := by rw [← hr]; exact L16_0 a ha0 ha1  (0) _ _ (by omega) ⟨_, rfl, (by simp [upd, *]), (by simp [upd, *]), (by simp [upd, *]), rfl, by first | trivial | assumption | simp⟩
  clear hr
  obtain ⟨f0, rfl, hf0⟩ := h
  simp -implicitDefEqProofs [r16_0, r16_1, r16_2, r16_3, r16_4, r16_5, r16_6, r16_7, r16_8, ha0, ha1, call21, callz21, e21, -List.getElem?_map, -getElem?_pos, List.getElem?_cons_zero, map_get, upd_ne, frOf_set, frOf_get, frOf_getD, encOffer, hf0] <;> try omega
-- laws.szIntS
@[simp] theorem call78 {m : Nat} (args : List AV) (S : St) : evCall T m (evFL T) 78 args S = lendC (evFL T 78) S (lendAll S i78.pes args) := evCall0 fn78 rfl rfl args S
@[simp] theorem callz78 (args : List AV) (S : St) : evCallFz T (evFL T) 78 args S = lendZ (evFL T 78) S i78.res (lendAll S i78.pes args) := evCallFz0 fn78 rfl rfl args S
@[simp] theorem pes78 : i78.pes = [[1], [0]] := rfl
@[simp] theorem body78 : i78.body = c78 := rfl
@[simp] theorem kind78 : i78.kind = 0 := rfl
@[simp] theorem tree78 : i78.tree = false := rfl
@[simp] theorem ntmps78 : i78.ntmps = 12 := rfl
@[simp] theorem results78 : i78.results = [(ResultVar.tmp 4)] := rfl
@[simp] theorem res78 : i78.res = [[0]] := rfl
theorem e78 (a : (List Int)) (l : Int) (hw0 : a.length ≤ 9223372036854775807) (hl0 : 0 ≤ l) (hl1 : l ≤ 1048576) : evFL T 78 [.ts .imm 1 (a.map encInt), .int .i64 l] [] = some (.int .i64 (szLInt a l), []) := by
  rw [evFL_at fn78 (by simp)]
  have hn : IntKind.i64.wrap (l - (a.length : Int)) = l - (a.length : Int) := wrap64 (by omega) (by omega)
  by_cases hc0 : l - (a.length : Int) < 0
  all_goals simp -implicitDefEqProofs [c78, r78_0, r78_1, r78_2, r78_3, r78_4, hw0, hl0, hl1, -List.getElem?_map, -getElem?_pos, List.getElem?_cons_zero, map_get, upd_ne, frOf_set, frOf_get, frOf_getD, hn, szL, szLInt, hc0]
-- laws.szAttrs
@[simp] theorem call51 {m : Nat} (args : List AV) (S : St) : evCall T m (evFL T) 51 args S = lendC (evFL T 51) S (lendAll S i51.pes args) := evCall0 fn51 rfl rfl args S
@[simp] theorem callz51 (args : List AV) (S : St) : evCallFz T (evFL T) 51 args S = lendZ (evFL T 51) S i51.res (lendAll S i51.pes args) := evCallFz0 fn51 rfl rfl args S
@[simp] theorem pes51 : i51.pes = [[0, 1, 0, 0, 0, 1], [0]] := rfl
@[simp] theorem body51 : i51.body = c51 := rfl
@[simp] theorem kind51 : i51.kind = 0 := rfl
@[simp] theorem tree51 : i51.tree = false := rfl
@[simp] theorem ntmps51 : i51.ntmps = 18 := rfl
@[simp] theorem results51 : i51.results = [(ResultVar.tmp 4)] := rfl
@[simp] theorem res51 : i51.res = [[0]] := rfl
theorem e51 (a_origin : Int) (a_path : (List Int)) (a_next : Int) (a_med : Int) (a_pref : Int) (a_comms : (List Int)) (l : Int) (hw0 : a_path.length ≤ 9223372036854775807) (hw1 : a_comms.length ≤ 9223372036854775807) (hl0 : 0 ≤ l) (hl1 : l ≤ 1048576) : evFL T 51 [.agg [.int .i64 a_origin, .ts .imm 1 (a_path.map encInt), .int .i64 a_next, .int .i64 a_med, .int .i64 a_pref, .ts .imm 1 (a_comms.map encInt)], .int .i64 l] [] = some (.int .i64 (szAttrs (⟨a_origin, a_path, a_next, a_med, a_pref, a_comms⟩ : Attrs) l), []) := by
  rw [evFL_at fn51 (by simp)]
  have hle0 := szLInt_le (a_path : (List Int)) (l) (by omega)
  by_cases hc0 : szLInt (a_path : (List Int)) (l) < 0
  · simp -implicitDefEqProofs [c51, r51_0, r51_1, r51_2, r51_3, r51_4, r51_5, r51_6, r51_7, hw0, hw1, hl0, hl1, call78, callz78, e78, -List.getElem?_map, -getElem?_pos, List.getElem?_cons_zero, map_get, upd_ne, frOf_set, frOf_get, frOf_getD, szAttrs, szThen, hc0]
  have hz0 : 0 ≤ szLInt (a_path : (List Int)) (l) := by omega
  have hu0 : szLInt (a_path : (List Int)) (l) ≤ 1048576 := by omega
  have hle1 := szLInt_le (a_comms : (List Int)) (szLInt (a_path : (List Int)) (l)) (by omega)
  by_cases hc1 : szLInt (a_comms : (List Int)) (szLInt (a_path : (List Int)) (l)) < 0
  · simp -implicitDefEqProofs [c51, r51_0, r51_1, r51_2, r51_3, r51_4, r51_5, r51_6, r51_7, hw0, hw1, hl0, hl1, call78, callz78, e78, -List.getElem?_map, -getElem?_pos, List.getElem?_cons_zero, map_get, upd_ne, frOf_set, frOf_get, frOf_getD, szAttrs, szThen, hc0, hz0, hu0, hc1]
  have hz1 : 0 ≤ szLInt (a_comms : (List Int)) (szLInt (a_path : (List Int)) (l)) := by omega
  have hu1 : szLInt (a_comms : (List Int)) (szLInt (a_path : (List Int)) (l)) ≤ 1048576 := by omega
  simp -implicitDefEqProofs [c51, r51_0, r51_1, r51_2, r51_3, r51_4, r51_5, r51_6, r51_7, hw0, hw1, hl0, hl1, call78, callz78, e78, -List.getElem?_map, -getElem?_pos, List.getElem?_cons_zero, map_get, upd_ne, frOf_set, frOf_get, frOf_getD, szAttrs, szThen, hc0, hc1, hz0, hz1, hu0, hu1]
-- laws.szOffer
@[simp] theorem call17 {m : Nat} (args : List AV) (S : St) : evCall T m (evFL T) 17 args S = lendC (evFL T 17) S (lendAll S i17.pes args) := evCall0 fn17 rfl rfl args S
@[simp] theorem callz17 (args : List AV) (S : St) : evCallFz T (evFL T) 17 args S = lendZ (evFL T 17) S i17.res (lendAll S i17.pes args) := evCallFz0 fn17 rfl rfl args S
@[simp] theorem pes17 : i17.pes = [[0, 0, 1, 0, 0, 0, 1], [0]] := rfl
@[simp] theorem body17 : i17.body = c17 := rfl
@[simp] theorem kind17 : i17.kind = 0 := rfl
@[simp] theorem tree17 : i17.tree = false := rfl
@[simp] theorem ntmps17 : i17.ntmps = 12 := rfl
@[simp] theorem results17 : i17.results = [(ResultVar.tmp 4)] := rfl
@[simp] theorem res17 : i17.res = [[0]] := rfl
theorem e17 (a_peer : Int) (a_attrs_origin : Int) (a_attrs_path : (List Int)) (a_attrs_next : Int) (a_attrs_med : Int) (a_attrs_pref : Int) (a_attrs_comms : (List Int)) (l : Int) (hw0 : a_attrs_path.length ≤ 9223372036854775807) (hw1 : a_attrs_comms.length ≤ 9223372036854775807) (hl0 : 0 ≤ l) (hl1 : l ≤ 1048576) : evFL T 17 [.agg [.int .i64 a_peer, .int .i64 a_attrs_origin, .ts .imm 1 (a_attrs_path.map encInt), .int .i64 a_attrs_next, .int .i64 a_attrs_med, .int .i64 a_attrs_pref, .ts .imm 1 (a_attrs_comms.map encInt)], .int .i64 l] [] = some (.int .i64 (szOffer (⟨a_peer, ⟨a_attrs_origin, a_attrs_path, a_attrs_next, a_attrs_med, a_attrs_pref, a_attrs_comms⟩⟩ : Offer) l), []) := by
  rw [evFL_at fn17 (by simp)]
  have hle0 := szAttrs_le (⟨a_attrs_origin, a_attrs_path, a_attrs_next, a_attrs_med, a_attrs_pref, a_attrs_comms⟩ : Attrs) (l) (by omega)
  by_cases hc0 : szAttrs (⟨a_attrs_origin, a_attrs_path, a_attrs_next, a_attrs_med, a_attrs_pref, a_attrs_comms⟩ : Attrs) (l) < 0
  · simp -implicitDefEqProofs [c17, r17_0, r17_1, r17_2, r17_3, r17_4, hw0, hw1, hl0, hl1, call51, callz51, e51, -List.getElem?_map, -getElem?_pos, List.getElem?_cons_zero, map_get, upd_ne, frOf_set, frOf_get, frOf_getD, szOffer, szThen, hc0]
  have hz0 : 0 ≤ szAttrs (⟨a_attrs_origin, a_attrs_path, a_attrs_next, a_attrs_med, a_attrs_pref, a_attrs_comms⟩ : Attrs) (l) := by omega
  have hu0 : szAttrs (⟨a_attrs_origin, a_attrs_path, a_attrs_next, a_attrs_med, a_attrs_pref, a_attrs_comms⟩ : Attrs) (l) ≤ 1048576 := by omega
  simp -implicitDefEqProofs [c17, r17_0, r17_1, r17_2, r17_3, r17_4, hw0, hw1, hl0, hl1, call51, callz51, e51, -List.getElem?_map, -getElem?_pos, List.getElem?_cons_zero, map_get, upd_ne, frOf_set, frOf_get, frOf_getD, szOffer, szThen, hc0, hz0, hu0]
-- laws.szOfferS
@[simp] theorem call12 {m : Nat} (args : List AV) (S : St) : evCall T m (evFL T) 12 args S = lendC (evFL T 12) S (lendAll S i12.pes args) := evCall0 fn12 rfl rfl args S
@[simp] theorem callz12 (args : List AV) (S : St) : evCallFz T (evFL T) 12 args S = lendZ (evFL T 12) S i12.res (lendAll S i12.pes args) := evCallFz0 fn12 rfl rfl args S
@[simp] theorem pes12 : i12.pes = [[7], [0]] := rfl
@[simp] theorem body12 : i12.body = c12 := rfl
@[simp] theorem kind12 : i12.kind = 0 := rfl
@[simp] theorem tree12 : i12.tree = false := rfl
@[simp] theorem ntmps12 : i12.ntmps = 27 := rfl
@[simp] theorem results12 : i12.results = [(ResultVar.tmp 4)] := rfl
@[simp] theorem res12 : i12.res = [[0]] := rfl
def I12_0 (a : (List Offer)) (l : Int)  (i : Nat) (fr : Fr) (S : St) : Prop := ∃ f : Nat → AV, ∃ l1 : Int, fr = frOf 27 f ∧ f 0 = .ts .imm 7 (a.map (encOffer .imm)) ∧ f 1 = .int .i64 l1 ∧ f 5 = .int .i64 i ∧ S = [] ∧ 0 ≤ l1 ∧ l1 ≤ 1048576 ∧ szGo szOffer (a.drop i) l1 = szGo szOffer a (l - (a.length : Int))
def R12_0 (a : (List Offer)) (l : Int)  (r : Option (Ex × Fr × St)) : Prop := (∃ f : Nat → AV, r = some (.ret, frOf 27 f, []) ∧ f 4 = .int .i64 (-1) ∧ szGo szOffer a (l - (a.length : Int)) = -1) ∨ (∃ f : Nat → AV, ∃ l2 : Int, r = some (.exit 0, frOf 27 f, []) ∧ f 1 = .int .i64 l2 ∧ szGo szOffer a (l - (a.length : Int)) = l2)
theorem L12_0 (a : (List Offer)) (l : Int) (hw0 : a.length ≤ 9223372036854775807) (hw1 : ∀ y ∈ a, wfOffer y) (hl0 : 0 ≤ l) (hl1 : l ≤ 1048576)   : ∀ i fr S, i ≤ a.length → I12_0 a l  i fr S → R12_0 a l  (evCL T 0 (.loop l12_0) fr S) := by
  refine loopQ _ _ _ ?_ ?_
  · rintro i fr S hi ⟨f, l1, rfl, t0, t1, t5, rfl, hf⟩
    have hn : IntKind.i64.wrap (l - (a.length : Int)) = l - (a.length : Int) := wrap64 (by omega) (by omega)
    have hwi : IntKind.i64.wrap ((i : Int) + 1) = (i : Int) + 1 := wrap64 (by omega) (by omega)
    have hi9 : True := trivial
    obtain ⟨hk0, hk1, hg⟩ := hf
    rw [drop_nth hi] at hg
    have hy := hw1 (nth a i) (nth_mem hi)
    simp only [wfOffer] at hy
    obtain ⟨hy0, hy1⟩ := hy
    have hle := szOffer_le (nth a i) l1 hk0
    by_cases hc : szOffer (nth a i) l1 < 0
    · simp -implicitDefEqProofs [r12_0, r12_1, r12_2, r12_3, r12_4, r12_5, r12_6, r12_7, r12_8, r12_9, r12_10, l12_0, hw0, hw1, hl0, hl1, call17, callz17, e17, -List.getElem?_map, -getElem?_pos, List.getElem?_cons_zero, map_get, upd_ne, frOf_set, frOf_get, frOf_getD, hn, encOffer, szLOffer, t0, t1, t5, hi, hwi, hk0, hk1, hc, hy0, hy1]
      refine .ret _ _ (Or.inl ⟨_, rfl, (by first | rfl | assumption | simp [upd, *]), ?_⟩); simp [szGo, hc] at hg; exact hg.symm
    · simp -implicitDefEqProofs [r12_0, r12_1, r12_2, r12_3, r12_4, r12_5, r12_6, r12_7, r12_8, r12_9, r12_10, l12_0, hw0, hw1, hl0, hl1, call17, callz17, e17, -List.getElem?_map, -getElem?_pos, List.getElem?_cons_zero, map_get, upd_ne, frOf_set, frOf_get, frOf_getD, hn, encOffer, szLOffer, t0, t1, t5, hi, hwi, hk0, hk1, hc, hy0, hy1]
      refine .go _ _ ⟨_, _, rfl, (by first | rfl | assumption | simp [upd, *]), (by first | rfl | assumption | simp [upd, *]), (by first | rfl | assumption | simp [upd, *]), rfl, ?_⟩; simp only [szGo, hc, if_false] at hg; exact ⟨by omega, by omega, hg⟩
  · rintro fr S ⟨f, l1, rfl, t0, t1, t5, rfl, hf⟩
    have hn : IntKind.i64.wrap (l - (a.length : Int)) = l - (a.length : Int) := wrap64 (by omega) (by omega)
    simp -implicitDefEqProofs [r12_0, r12_1, r12_2, r12_3, r12_4, r12_5, r12_6, r12_7, r12_8, r12_9, r12_10, l12_0, hw0, hw1, hl0, hl1, call17, callz17, e17, -List.getElem?_map, -getElem?_pos, List.getElem?_cons_zero, map_get, upd_ne, frOf_set, frOf_get, frOf_getD, hn, encOffer, szLOffer, t0, t1, t5]
    refine .exit _ _ _ (Or.inr ⟨_, _, rfl, (by first | rfl | assumption | simp [upd, *]), ?_⟩)
    simp [szGo] at hf; exact hf.2.2.symm
theorem e12 (a : (List Offer)) (l : Int) (hw0 : a.length ≤ 9223372036854775807) (hw1 : ∀ y ∈ a, wfOffer y) (hl0 : 0 ≤ l) (hl1 : l ≤ 1048576) : evFL T 12 [.ts .imm 7 (a.map (encOffer .imm)), .int .i64 l] [] = some (.int .i64 (szLOffer a l), []) := by
  rw [evFL_at fn12 (by simp)]
  have hn : IntKind.i64.wrap (l - (a.length : Int)) = l - (a.length : Int) := wrap64 (by omega) (by omega)
  by_cases hc : l - (a.length : Int) < 0
  · simp -implicitDefEqProofs [c12, r12_0, r12_1, r12_2, r12_3, r12_4, r12_5, r12_6, r12_7, r12_8, r12_9, r12_10, hw0, hw1, hl0, hl1, call17, callz17, e17, -List.getElem?_map, -getElem?_pos, List.getElem?_cons_zero, map_get, upd_ne, frOf_set, frOf_get, frOf_getD, hn, encOffer, szLOffer, hc, szS]
  simp -implicitDefEqProofs [c12, r12_0, r12_1, r12_2, r12_3, r12_4, r12_5, r12_6, r12_7, r12_8, r12_9, r12_10, hw0, hw1, hl0, hl1, call17, callz17, e17, -List.getElem?_map, -getElem?_pos, List.getElem?_cons_zero, map_get, upd_ne, frOf_set, frOf_get, frOf_getD, hn, encOffer, szLOffer, hc]
  generalize hr : evCL T 0 (.loop l12_0) _ _ = r
  have h : R12_0 a l  r := by rw [← hr]; exact L12_0 a l hw0 hw1 hl0 hl1  (0) _ _ (by omega) ⟨_, _, rfl, (by simp [upd, *]), (by simp [upd, *]), (by simp [upd, *]), rfl, ⟨by omega, by omega, rfl⟩⟩
  clear hr
  rcases h with h | h
  · obtain ⟨f0, rfl, u0_4, hf0⟩ := h
    simp -implicitDefEqProofs [r12_0, r12_1, r12_2, r12_3, r12_4, r12_5, r12_6, r12_7, r12_8, r12_9, r12_10, hw0, hw1, hl0, hl1, call17, callz17, e17, -List.getElem?_map, -getElem?_pos, List.getElem?_cons_zero, map_get, upd_ne, frOf_set, frOf_get, frOf_getD, hn, encOffer, szLOffer, u0_4, hf0, hc, szS]
  obtain ⟨f0, l2, rfl, u0_1, hf0⟩ := h
  simp -implicitDefEqProofs [r12_0, r12_1, r12_2, r12_3, r12_4, r12_5, r12_6, r12_7, r12_8, r12_9, r12_10, hw0, hw1, hl0, hl1, call17, callz17, e17, -List.getElem?_map, -getElem?_pos, List.getElem?_cons_zero, map_get, upd_ne, frOf_set, frOf_get, frOf_getD, hn, encOffer, szLOffer, u0_1, hf0, hc, szS]
-- impl.isPath$1
@[simp] theorem call110 {m : Nat} (args : List AV) (S : St) : evCall T m (evFL T) 110 args S = lendC (evFL T 110) S (lendAll S i110.pes args) := evCall0 fn110 rfl rfl args S
@[simp] theorem callz110 (args : List AV) (S : St) : evCallFz T (evFL T) 110 args S = lendZ (evFL T 110) S i110.res (lendAll S i110.pes args) := evCallFz0 fn110 rfl rfl args S
@[simp] theorem pes110 : i110.pes = [[0]] := rfl
@[simp] theorem body110 : i110.body = c110 := rfl
@[simp] theorem kind110 : i110.kind = 0 := rfl
@[simp] theorem tree110 : i110.tree = false := rfl
@[simp] theorem ntmps110 : i110.ntmps = 6 := rfl
@[simp] theorem results110 : i110.results = [(ResultVar.tmp 2)] := rfl
@[simp] theorem res110 : i110.res = [[0]] := rfl
theorem e110 (a : Int)  : evFL T 110 [.int .i64 a] [] = some (.bool (!inR a 1 65535), []) := by
  rw [evFL_at fn110 (by simp)]
  all_goals simp -implicitDefEqProofs [c110, r110_0, r110_1, call66, callz66, e66, -List.getElem?_map, -getElem?_pos, List.getElem?_cons_zero, map_get, upd_ne, frOf_set, frOf_get, frOf_getD]
-- slices.IndexFunc[[]int,int]
@[simp] theorem call115 {m : Nat} (args : List AV) (S : St) : evCall T m (evFL T) 115 args S = lendC (evFL T 115) S (lendAll S i115.pes args) := evCall0 fn115 rfl rfl args S
@[simp] theorem callz115 (args : List AV) (S : St) : evCallFz T (evFL T) 115 args S = lendZ (evFL T 115) S i115.res (lendAll S i115.pes args) := evCallFz0 fn115 rfl rfl args S
@[simp] theorem pes115 : i115.pes = [[1], [0]] := rfl
@[simp] theorem body115 : i115.body = c115 := rfl
@[simp] theorem kind115 : i115.kind = 0 := rfl
@[simp] theorem tree115 : i115.tree = false := rfl
@[simp] theorem ntmps115 : i115.ntmps = 19 := rfl
@[simp] theorem results115 : i115.results = [(ResultVar.tmp 4)] := rfl
@[simp] theorem res115 : i115.res = [[0]] := rfl
def I115_0 (a : (List Int)) (g : Nat) (caps : List AV) (p : Int → Bool)  (i : Nat) (fr : Fr) (S : St) : Prop := ∃ f : Nat → AV, fr = frOf 19 f ∧ f 0 = .ts .imm 1 (a.map encInt) ∧ f 1 = .fn g caps ∧ f 7 = .int .i64 a.length ∧ f 8 = .int .i64 i ∧ S = [] ∧ ∀ j, j < i → p (nth a j) = false
def R115_0 (a : (List Int)) (g : Nat) (caps : List AV) (p : Int → Bool)  (r : Option (Ex × Fr × St)) : Prop := (∃ f : Nat → AV, ∃ j : Int, r = some (.ret, frOf 19 f, []) ∧ f 4 = .int .i64 j ∧ idxF p a = j) ∨ (∃ f : Nat → AV, r = some (.exit 0, frOf 19 f, []) ∧ idxF p a = -1)
theorem L115_0 (a : (List Int)) (g : Nat) (caps : List AV) (p : Int → Bool) (hp : ∀ x ∈ a, ∀ (m : Nat) (S : St), evCall T m (evFL T) g (.int .i64 x :: caps) S = some (.bool (p x), S)) (hn : a.length ≤ 9223372036854775807)   : ∀ i fr S, i ≤ a.length → I115_0 a g caps p  i fr S → R115_0 a g caps p  (evCL T 0 (.loop l115_0) fr S) := by
  refine loopQ _ _ _ ?_ ?_
  · rintro i fr S hi ⟨f, rfl, t0, t1, t7, t8, rfl, hf⟩
    have hwi : IntKind.i64.wrap ((i : Int) + 1) = (i : Int) + 1 := wrap64 (by omega) (by omega)
    have hpi := hp (nth a i) (nth_mem hi) 0
    cases hc : p (nth a i)
    · simp -implicitDefEqProofs [r115_0, r115_1, r115_2, r115_3, r115_4, r115_5, r115_6, r115_7, l115_0, hp, hn, -List.getElem?_map, -getElem?_pos, List.getElem?_cons_zero, map_get, upd_ne, frOf_set, frOf_get, frOf_getD, encInt, t0, t1, t7, t8, hi, hwi, hpi, hc]
      refine .go _ _ ⟨_, rfl, (by first | rfl | assumption | simp [upd, *]), (by first | rfl | assumption | simp [upd, *]), (by first | rfl | assumption | simp [upd, *]), (by first | rfl | assumption | simp [upd, *]), rfl, ?_⟩; exact none_succ hf hc
    · simp -implicitDefEqProofs [r115_0, r115_1, r115_2, r115_3, r115_4, r115_5, r115_6, r115_7, l115_0, hp, hn, -List.getElem?_map, -getElem?_pos, List.getElem?_cons_zero, map_get, upd_ne, frOf_set, frOf_get, frOf_getD, encInt, t0, t1, t7, t8, hi, hwi, hpi, hc]
      refine .ret _ _ (Or.inl ⟨_, _, rfl, (by first | rfl | assumption | simp [upd, *]), ?_⟩); exact idxF_hit hi hf hc
  · rintro fr S ⟨f, rfl, t0, t1, t7, t8, rfl, hf⟩
    simp -implicitDefEqProofs [r115_0, r115_1, r115_2, r115_3, r115_4, r115_5, r115_6, r115_7, l115_0, hp, hn, -List.getElem?_map, -getElem?_pos, List.getElem?_cons_zero, map_get, upd_ne, frOf_set, frOf_get, frOf_getD, encInt, t0, t1, t7, t8]
    refine .exit _ _ _ (Or.inr ⟨_, rfl, ?_⟩)
    exact idxF_miss hf
theorem e115 (a : (List Int)) (g : Nat) (caps : List AV) (p : Int → Bool) (hp : ∀ x ∈ a, ∀ (m : Nat) (S : St), evCall T m (evFL T) g (.int .i64 x :: caps) S = some (.bool (p x), S)) (hn : a.length ≤ 9223372036854775807) : evFL T 115 [.ts .imm 1 (a.map encInt), .fn g caps] [] = some (.int .i64 (idxF p a), []) := by
  rw [evFL_at fn115 (by simp)]
  simp -implicitDefEqProofs [c115, r115_0, r115_1, r115_2, r115_3, r115_4, r115_5, r115_6, r115_7, hp, hn, -List.getElem?_map, -getElem?_pos, List.getElem?_cons_zero, map_get, upd_ne, frOf_set, frOf_get, frOf_getD, encInt]
  generalize hr : evCL T 0 (.loop l115_0) _ _ = r
  have h : R115_0 a g caps p  r := by rw [← hr]; exact L115_0 a g caps p hp hn  (0) _ _ (by omega) ⟨_, rfl, (by simp [upd, *]), (by simp [upd, *]), (by simp [upd, *]), (by simp [upd, *]), rfl, by simp⟩
  clear hr
  rcases h with h | h
  · obtain ⟨f0, j, rfl, u0_4, hf0⟩ := h
    simp -implicitDefEqProofs [r115_0, r115_1, r115_2, r115_3, r115_4, r115_5, r115_6, r115_7, hp, hn, -List.getElem?_map, -getElem?_pos, List.getElem?_cons_zero, map_get, upd_ne, frOf_set, frOf_get, frOf_getD, encInt, u0_4, hf0] <;> try omega
  obtain ⟨f0, rfl, hf0⟩ := h
  simp -implicitDefEqProofs [r115_0, r115_1, r115_2, r115_3, r115_4, r115_5, r115_6, r115_7, hp, hn, -List.getElem?_map, -getElem?_pos, List.getElem?_cons_zero, map_get, upd_ne, frOf_set, frOf_get, frOf_getD, encInt, hf0] <;> try omega
-- slices.ContainsFunc[[]int,int]
@[simp] theorem call109 {m : Nat} (args : List AV) (S : St) : evCall T m (evFL T) 109 args S = lendC (evFL T 109) S (lendAll S i109.pes args) := evCall0 fn109 rfl rfl args S
@[simp] theorem callz109 (args : List AV) (S : St) : evCallFz T (evFL T) 109 args S = lendZ (evFL T 109) S i109.res (lendAll S i109.pes args) := evCallFz0 fn109 rfl rfl args S
@[simp] theorem pes109 : i109.pes = [[1], [0]] := rfl
@[simp] theorem body109 : i109.body = c109 := rfl
@[simp] theorem kind109 : i109.kind = 0 := rfl
@[simp] theorem tree109 : i109.tree = false := rfl
@[simp] theorem ntmps109 : i109.ntmps = 9 := rfl
@[simp] theorem results109 : i109.results = [(ResultVar.tmp 4)] := rfl
@[simp] theorem res109 : i109.res = [[0]] := rfl
theorem e109 (a : (List Int)) (g : Nat) (caps : List AV) (p : Int → Bool) (hp : ∀ x ∈ a, ∀ (m : Nat) (S : St), evCall T m (evFL T) g (.int .i64 x :: caps) S = some (.bool (p x), S)) (hn : a.length ≤ 9223372036854775807) (hcaps : ∀ S, mapO (lendPtr S) caps = some caps) : evFL T 109 [.ts .imm 1 (a.map encInt), .fn g caps] [] = some (.bool (a.any p), []) := by
  rw [evFL_at fn109 (by simp)]
  have he := e115 a g caps p hp hn
  all_goals simp -implicitDefEqProofs [c109, r109_0, r109_1, hp, hn, hcaps, call115, callz115, e115, -List.getElem?_map, -getElem?_pos, List.getElem?_cons_zero, map_get, upd_ne, frOf_set, frOf_get, frOf_getD, he, idxF_any]
def pathB (xs : List Int) : Bool := decide ((xs.length : Int) ≤ 10) && xs.all fun n => inR n 1 65535
-- impl.isPath
@[simp] theorem call98 {m : Nat} (args : List AV) (S : St) : evCall T m (evFL T) 98 args S = lendC (evFL T 98) S (lendAll S i98.pes args) := evCall0 fn98 rfl rfl args S
@[simp] theorem callz98 (args : List AV) (S : St) : evCallFz T (evFL T) 98 args S = lendZ (evFL T 98) S i98.res (lendAll S i98.pes args) := evCallFz0 fn98 rfl rfl args S
@[simp] theorem pes98 : i98.pes = [[1]] := rfl
@[simp] theorem body98 : i98.body = c98 := rfl
@[simp] theorem kind98 : i98.kind = 0 := rfl
@[simp] theorem tree98 : i98.tree = false := rfl
@[simp] theorem ntmps98 : i98.ntmps = 11 := rfl
@[simp] theorem results98 : i98.results = [(ResultVar.tmp 2)] := rfl
@[simp] theorem res98 : i98.res = [[0]] := rfl
theorem e98 (a : (List Int)) (h0 : a.length ≤ 1048576) : evFL T 98 [.ts .imm 1 (a.map encInt)] [] = some (.bool (pathB a), []) := by
  rw [evFL_at fn98 (by simp)]
  have he := e109 a 110 [] (fun n => !inR n 1 65535) (fun x hx m S => by simp [e110]) (by omega) (fun _ => rfl)
  cases hq0 : (decide ((a.length : Int) ≤ 10) : Bool)
  · simp -implicitDefEqProofs [c98, r98_0, r98_1, h0, call109, callz109, e109, call110, callz110, e110, -List.getElem?_map, -getElem?_pos, List.getElem?_cons_zero, map_get, upd_ne, frOf_set, frOf_get, frOf_getD, hq0, he, pathB, any_neg] <;> try omega
  simp -implicitDefEqProofs [c98, r98_0, r98_1, h0, call109, callz109, e109, call110, callz110, e110, -List.getElem?_map, -getElem?_pos, List.getElem?_cons_zero, map_get, upd_ne, frOf_set, frOf_get, frOf_getD, hq0, he, pathB, any_neg] <;> try omega
def attrsB (x : Attrs) : Bool := inR x.origin 0 2 && pathB x.path && inR x.next 0 4294967295 && inR x.med 0 1000000 && inR x.pref 0 1000000 && commsB x.comms
-- impl.GoodAttrs
@[simp] theorem call77 {m : Nat} (args : List AV) (S : St) : evCall T m (evFL T) 77 args S = lendC (evFL T 77) S (lendAll S i77.pes args) := evCall0 fn77 rfl rfl args S
@[simp] theorem callz77 (args : List AV) (S : St) : evCallFz T (evFL T) 77 args S = lendZ (evFL T 77) S i77.res (lendAll S i77.pes args) := evCallFz0 fn77 rfl rfl args S
@[simp] theorem pes77 : i77.pes = [[0, 1, 0, 0, 0, 1]] := rfl
@[simp] theorem body77 : i77.body = c77 := rfl
@[simp] theorem kind77 : i77.kind = 0 := rfl
@[simp] theorem tree77 : i77.tree = false := rfl
@[simp] theorem ntmps77 : i77.ntmps = 31 := rfl
@[simp] theorem results77 : i77.results = [(ResultVar.tmp 2)] := rfl
@[simp] theorem res77 : i77.res = [[0]] := rfl
theorem e77 (a_origin : Int) (a_path : (List Int)) (a_next : Int) (a_med : Int) (a_pref : Int) (a_comms : (List Int)) (h0 : a_path.length ≤ 1048576) (h1 : a_comms.length ≤ 1048576) : evFL T 77 [.agg [.int .i64 a_origin, .ts .imm 1 (a_path.map encInt), .int .i64 a_next, .int .i64 a_med, .int .i64 a_pref, .ts .imm 1 (a_comms.map encInt)]] [] = some (.bool (attrsB (⟨a_origin, a_path, a_next, a_med, a_pref, a_comms⟩ : Attrs)), []) := by
  rw [evFL_at fn77 (by simp)]
  cases hq0 : (inR a_origin 0 2 : Bool)
  · simp -implicitDefEqProofs [c77, r77_0, r77_1, h0, h1, call91, callz91, e91, call98, callz98, e98, call99, callz99, e99, call100, callz100, e100, call101, callz101, e101, -List.getElem?_map, -getElem?_pos, List.getElem?_cons_zero, map_get, upd_ne, frOf_set, frOf_get, frOf_getD, hq0, attrsB] <;> try omega
  cases hq1 : (pathB a_path : Bool)
  · simp -implicitDefEqProofs [c77, r77_0, r77_1, h0, h1, call91, callz91, e91, call98, callz98, e98, call99, callz99, e99, call100, callz100, e100, call101, callz101, e101, -List.getElem?_map, -getElem?_pos, List.getElem?_cons_zero, map_get, upd_ne, frOf_set, frOf_get, frOf_getD, hq0, hq1, attrsB] <;> try omega
  cases hq2 : (inR a_next 0 4294967295 : Bool)
  · simp -implicitDefEqProofs [c77, r77_0, r77_1, h0, h1, call91, callz91, e91, call98, callz98, e98, call99, callz99, e99, call100, callz100, e100, call101, callz101, e101, -List.getElem?_map, -getElem?_pos, List.getElem?_cons_zero, map_get, upd_ne, frOf_set, frOf_get, frOf_getD, hq0, hq1, hq2, attrsB] <;> try omega
  cases hq3 : (inR a_med 0 1000000 : Bool)
  · simp -implicitDefEqProofs [c77, r77_0, r77_1, h0, h1, call91, callz91, e91, call98, callz98, e98, call99, callz99, e99, call100, callz100, e100, call101, callz101, e101, -List.getElem?_map, -getElem?_pos, List.getElem?_cons_zero, map_get, upd_ne, frOf_set, frOf_get, frOf_getD, hq0, hq1, hq2, hq3, attrsB] <;> try omega
  cases hq4 : (inR a_pref 0 1000000 : Bool)
  · simp -implicitDefEqProofs [c77, r77_0, r77_1, h0, h1, call91, callz91, e91, call98, callz98, e98, call99, callz99, e99, call100, callz100, e100, call101, callz101, e101, -List.getElem?_map, -getElem?_pos, List.getElem?_cons_zero, map_get, upd_ne, frOf_set, frOf_get, frOf_getD, hq0, hq1, hq2, hq3, hq4, attrsB] <;> try omega
  simp -implicitDefEqProofs [c77, r77_0, r77_1, h0, h1, call91, callz91, e91, call98, callz98, e98, call99, callz99, e99, call100, callz100, e100, call101, callz101, e101, -List.getElem?_map, -getElem?_pos, List.getElem?_cons_zero, map_get, upd_ne, frOf_set, frOf_get, frOf_getD, hq0, hq1, hq2, hq3, hq4, attrsB] <;> try omega
-- spec.GoodAttrs
@[simp] theorem call49 {m : Nat} (args : List AV) (S : St) : evCall T m (evFL T) 49 args S = lendC (evFL T 49) S (lendAll S i49.pes args) := evCall0 fn49 rfl rfl args S
@[simp] theorem callz49 (args : List AV) (S : St) : evCallFz T (evFL T) 49 args S = lendZ (evFL T 49) S i49.res (lendAll S i49.pes args) := evCallFz0 fn49 rfl rfl args S
@[simp] theorem pes49 : i49.pes = [[0, 1, 0, 0, 0, 1]] := rfl
@[simp] theorem body49 : i49.body = c49 := rfl
@[simp] theorem kind49 : i49.kind = 0 := rfl
@[simp] theorem tree49 : i49.tree = false := rfl
@[simp] theorem ntmps49 : i49.ntmps = 74 := rfl
@[simp] theorem results49 : i49.results = [(ResultVar.tmp 2)] := rfl
@[simp] theorem res49 : i49.res = [[0]] := rfl
def I49_0 (a_origin : Int) (a_path : (List Int)) (a_next : Int) (a_med : Int) (a_pref : Int) (a_comms : (List Int))  (i : Nat) (fr : Fr) (S : St) : Prop := ∃ f : Nat → AV, fr = frOf 74 f ∧ f 1 = .ptr 0 0 0 ∧ f 8 = .ts .imm 1 (a_path.map encInt) ∧ f 9 = .int .i64 a_path.length ∧ f 10 = .int .i64 i ∧ S = [some ⟨.box, 6, [[.int .i64 a_origin, .ts .imm 1 (a_path.map encInt), .int .i64 a_next, .int .i64 a_med, .int .i64 a_pref, .ts .imm 1 (a_comms.map encInt)]]⟩] ∧ ∀ j, j < i → inR (nth a_path j) 1 65535 = true
def R49_0 (a_origin : Int) (a_path : (List Int)) (a_next : Int) (a_med : Int) (a_pref : Int) (a_comms : (List Int))  (r : Option (Ex × Fr × St)) : Prop := (∃ f : Nat → AV, r = some (.ret, frOf 74 f, [some ⟨.box, 6, [[.int .i64 a_origin, .ts .imm 1 (a_path.map encInt), .int .i64 a_next, .int .i64 a_med, .int .i64 a_pref, .ts .imm 1 (a_comms.map encInt)]]⟩]) ∧ f 2 = .bool false ∧ (a_path.all fun n => inR n 1 65535) = false) ∨ (∃ f : Nat → AV, r = some (.exit 0, frOf 74 f, [some ⟨.box, 6, [[.int .i64 a_origin, .ts .imm 1 (a_path.map encInt), .int .i64 a_next, .int .i64 a_med, .int .i64 a_pref, .ts .imm 1 (a_comms.map encInt)]]⟩]) ∧ f 1 = .ptr 0 0 0 ∧ (a_path.all fun n => inR n 1 65535) = true)
theorem L49_0 (a_origin : Int) (a_path : (List Int)) (a_next : Int) (a_med : Int) (a_pref : Int) (a_comms : (List Int)) (h0 : a_path.length ≤ 1048576) (h1 : a_comms.length ≤ 1048576)   : ∀ i fr S, i ≤ a_path.length → I49_0 a_origin a_path a_next a_med a_pref a_comms  i fr S → R49_0 a_origin a_path a_next a_med a_pref a_comms  (evCL T 0 (.loop l49_0) fr S) := by
  refine loopQ _ _ _ ?_ ?_
  · rintro i fr S hi ⟨f, rfl, t1, t8, t9, t10, rfl, hf⟩
    have hwi : IntKind.i64.wrap ((i : Int) + 1) = (i : Int) + 1 := wrap64 (by omega) (by omega)
    cases hc : inR (nth a_path i) 1 65535
    · simp -implicitDefEqProofs [r49_0, r49_1, r49_2, r49_3, r49_4, r49_5, r49_6, r49_7, r49_8, r49_9, r49_10, r49_11, r49_12, r49_13, l49_0, h0, h1, call48, callz48, e48, call75, callz75, e75, -List.getElem?_map, -getElem?_pos, List.getElem?_cons_zero, map_get, upd_ne, frOf_set, frOf_get, frOf_getD, encInt, t1, t8, t9, t10, hi, hwi, hc]
      refine .ret _ _ (Or.inl ⟨_, rfl, (by first | rfl | assumption | simp [upd, *]), ?_⟩); exact fa_no hi hc
    · simp -implicitDefEqProofs [r49_0, r49_1, r49_2, r49_3, r49_4, r49_5, r49_6, r49_7, r49_8, r49_9, r49_10, r49_11, r49_12, r49_13, l49_0, h0, h1, call48, callz48, e48, call75, callz75, e75, -List.getElem?_map, -getElem?_pos, List.getElem?_cons_zero, map_get, upd_ne, frOf_set, frOf_get, frOf_getD, encInt, t1, t8, t9, t10, hi, hwi, hc]
      refine .go _ _ ⟨_, rfl, (by first | rfl | assumption | simp [upd, *]), (by first | rfl | assumption | simp [upd, *]), (by first | rfl | assumption | simp [upd, *]), (by first | rfl | assumption | simp [upd, *]), rfl, ?_⟩; exact fa_succ hf hc
  · rintro fr S ⟨f, rfl, t1, t8, t9, t10, rfl, hf⟩
    simp -implicitDefEqProofs [r49_0, r49_1, r49_2, r49_3, r49_4, r49_5, r49_6, r49_7, r49_8, r49_9, r49_10, r49_11, r49_12, r49_13, l49_0, h0, h1, call48, callz48, e48, call75, callz75, e75, -List.getElem?_map, -getElem?_pos, List.getElem?_cons_zero, map_get, upd_ne, frOf_set, frOf_get, frOf_getD, encInt, t1, t8, t9, t10]
    refine .exit _ _ _ (Or.inr ⟨_, rfl, (by first | rfl | assumption | simp [upd, *]), ?_⟩)
    exact fa_all hf
def I49_1 (a_origin : Int) (a_path : (List Int)) (a_next : Int) (a_med : Int) (a_pref : Int) (a_comms : (List Int))  (i : Nat) (fr : Fr) (S : St) : Prop := ∃ f : Nat → AV, fr = frOf 74 f ∧ f 1 = .ptr 0 0 0 ∧ f 19 = .ts .imm 1 (a_comms.map encInt) ∧ f 20 = .int .i64 a_comms.length ∧ f 21 = .int .i64 i ∧ S = [some ⟨.box, 6, [[.int .i64 a_origin, .ts .imm 1 (a_path.map encInt), .int .i64 a_next, .int .i64 a_med, .int .i64 a_pref, .ts .imm 1 (a_comms.map encInt)]]⟩] ∧ allB i (commP a_comms) = true
def R49_1 (a_origin : Int) (a_path : (List Int)) (a_next : Int) (a_med : Int) (a_pref : Int) (a_comms : (List Int))  (r : Option (Ex × Fr × St)) : Prop := (∃ f : Nat → AV, r = some (.ret, frOf 74 f, [some ⟨.box, 6, [[.int .i64 a_origin, .ts .imm 1 (a_path.map encInt), .int .i64 a_next, .int .i64 a_med, .int .i64 a_pref, .ts .imm 1 (a_comms.map encInt)]]⟩]) ∧ f 2 = .bool false ∧ allB a_comms.length (commP a_comms) = false) ∨ (∃ f : Nat → AV, r = some (.exit 2, frOf 74 f, [some ⟨.box, 6, [[.int .i64 a_origin, .ts .imm 1 (a_path.map encInt), .int .i64 a_next, .int .i64 a_med, .int .i64 a_pref, .ts .imm 1 (a_comms.map encInt)]]⟩]) ∧ f 1 = .ptr 0 0 0 ∧ allB a_comms.length (commP a_comms) = true)
theorem L49_1 (a_origin : Int) (a_path : (List Int)) (a_next : Int) (a_med : Int) (a_pref : Int) (a_comms : (List Int)) (h0 : a_path.length ≤ 1048576) (h1 : a_comms.length ≤ 1048576)   : ∀ i fr S, i ≤ a_comms.length → I49_1 a_origin a_path a_next a_med a_pref a_comms  i fr S → R49_1 a_origin a_path a_next a_med a_pref a_comms  (evCL T 0 (.loop l49_1) fr S) := by
  refine loopQ _ _ _ ?_ ?_
  · rintro i fr S hi ⟨f, rfl, t1, t19, t20, t21, rfl, hf⟩
    have hwi : IntKind.i64.wrap ((i : Int) + 1) = (i : Int) + 1 := wrap64 (by omega) (by omega)
    rcases i with _ | i
    · by_cases hc : inR (nth a_comms 0) 0 1000000 = true
      · simp -implicitDefEqProofs [r49_0, r49_1, r49_2, r49_3, r49_4, r49_5, r49_6, r49_7, r49_8, r49_9, r49_10, r49_11, r49_12, r49_13, l49_1, h0, h1, call48, callz48, e48, call75, callz75, e75, -List.getElem?_map, -getElem?_pos, List.getElem?_cons_zero, map_get, upd_ne, frOf_set, frOf_get, frOf_getD, encInt, t1, t19, t20, t21, hi, hwi, hc]
        refine .go _ _ ⟨_, rfl, (by first | rfl | assumption | simp [upd, *]), (by first | rfl | assumption | simp [upd, *]), (by first | rfl | assumption | simp [upd, *]), (by first | rfl | assumption | simp [upd, *]), rfl, ?_⟩; simp [allB_succ, commP, hc]
      · simp -implicitDefEqProofs [r49_0, r49_1, r49_2, r49_3, r49_4, r49_5, r49_6, r49_7, r49_8, r49_9, r49_10, r49_11, r49_12, r49_13, l49_1, h0, h1, call48, callz48, e48, call75, callz75, e75, -List.getElem?_map, -getElem?_pos, List.getElem?_cons_zero, map_get, upd_ne, frOf_set, frOf_get, frOf_getD, encInt, t1, t19, t20, t21, hi, hwi, hc]
        refine .ret _ _ (Or.inl ⟨_, rfl, (by first | rfl | assumption | simp [upd, *]), ?_⟩); exact allB_no hi (by simp [commP, hc])
    · have hs : (i : Int) + 1 < (a_comms.length : Int) := by omega
      have hz : (0 : Int) ≤ (i : Int) + 1 := by omega
      have hp : (0 : Int) < (i : Int) + 1 := by omega
      have hw0 : IntKind.i64.wrap (i : Int) = (i : Int) := wrap64 (by omega) (by omega)
      have hw1 : IntKind.i64.wrap ((i : Int) + 1 + 1) = (i : Int) + 1 + 1 := wrap64 (by omega) (by omega)
      have hi2 := Nat.lt_of_succ_lt hi
      by_cases hc : inR (nth a_comms (i + 1)) 0 1000000 = true
      · by_cases hd : nth a_comms (i + 1) ≤ nth a_comms i
        · simp -implicitDefEqProofs [r49_0, r49_1, r49_2, r49_3, r49_4, r49_5, r49_6, r49_7, r49_8, r49_9, r49_10, r49_11, r49_12, r49_13, l49_1, h0, h1, call48, callz48, e48, call75, callz75, e75, -List.getElem?_map, -getElem?_pos, List.getElem?_cons_zero, map_get, upd_ne, frOf_set, frOf_get, frOf_getD, encInt, t1, t19, t20, t21, hi, hi2, hs, hz, hp, hw0, hw1, hwi, hc, hd]
          refine .ret _ _ (Or.inl ⟨_, rfl, (by first | rfl | assumption | simp [upd, *]), ?_⟩); exact allB_no hi (by simp [commP]; omega)
        · simp -implicitDefEqProofs [r49_0, r49_1, r49_2, r49_3, r49_4, r49_5, r49_6, r49_7, r49_8, r49_9, r49_10, r49_11, r49_12, r49_13, l49_1, h0, h1, call48, callz48, e48, call75, callz75, e75, -List.getElem?_map, -getElem?_pos, List.getElem?_cons_zero, map_get, upd_ne, frOf_set, frOf_get, frOf_getD, encInt, t1, t19, t20, t21, hi, hi2, hs, hz, hp, hw0, hw1, hwi, hc, hd]
          refine .go _ _ ⟨_, rfl, (by first | rfl | assumption | simp [upd, *]), (by first | rfl | assumption | simp [upd, *]), (by first | rfl | assumption | simp [upd, *]), (by first | rfl | assumption | simp [upd, *]), rfl, ?_⟩; simp [allB_succ, commP, hc] at hf ⊢; simp [hf]; omega
      · simp -implicitDefEqProofs [r49_0, r49_1, r49_2, r49_3, r49_4, r49_5, r49_6, r49_7, r49_8, r49_9, r49_10, r49_11, r49_12, r49_13, l49_1, h0, h1, call48, callz48, e48, call75, callz75, e75, -List.getElem?_map, -getElem?_pos, List.getElem?_cons_zero, map_get, upd_ne, frOf_set, frOf_get, frOf_getD, encInt, t1, t19, t20, t21, hi, hi2, hs, hz, hp, hw0, hw1, hwi, hc]
        refine .ret _ _ (Or.inl ⟨_, rfl, (by first | rfl | assumption | simp [upd, *]), ?_⟩); exact allB_no hi (by simp [commP, hc])
  · rintro fr S ⟨f, rfl, t1, t19, t20, t21, rfl, hf⟩
    simp -implicitDefEqProofs [r49_0, r49_1, r49_2, r49_3, r49_4, r49_5, r49_6, r49_7, r49_8, r49_9, r49_10, r49_11, r49_12, r49_13, l49_1, h0, h1, call48, callz48, e48, call75, callz75, e75, -List.getElem?_map, -getElem?_pos, List.getElem?_cons_zero, map_get, upd_ne, frOf_set, frOf_get, frOf_getD, encInt, t1, t19, t20, t21]
    refine .exit _ _ _ (Or.inr ⟨_, rfl, (by first | rfl | assumption | simp [upd, *]), ?_⟩)
    first | trivial | assumption | simp [*]
theorem e49 (a_origin : Int) (a_path : (List Int)) (a_next : Int) (a_med : Int) (a_pref : Int) (a_comms : (List Int)) (h0 : a_path.length ≤ 1048576) (h1 : a_comms.length ≤ 1048576) : evFL T 49 [.agg [.int .i64 a_origin, .ts .imm 1 (a_path.map encInt), .int .i64 a_next, .int .i64 a_med, .int .i64 a_pref, .ts .imm 1 (a_comms.map encInt)]] [] = some (.bool (attrsB (⟨a_origin, a_path, a_next, a_med, a_pref, a_comms⟩ : Attrs)), []) := by
  rw [evFL_at fn49 (by simp)]
  simp -implicitDefEqProofs [c49, r49_0, r49_1, r49_2, r49_3, r49_4, r49_5, r49_6, r49_7, r49_8, r49_9, r49_10, r49_11, r49_12, r49_13, h0, h1, call48, callz48, e48, call75, callz75, e75, -List.getElem?_map, -getElem?_pos, List.getElem?_cons_zero, map_get, upd_ne, frOf_set, frOf_get, frOf_getD, encInt]
  generalize hr : evCL T 0 (.loop l49_0) _ _ = r
  have h : R49_0 a_origin a_path a_next a_med a_pref a_comms  r := by rw [← hr]; exact L49_0 a_origin a_path a_next a_med a_pref a_comms h0 h1  (0) _ _ (by omega) ⟨_, rfl, (by simp [upd, *]), (by simp [upd, *]), (by simp [upd, *]), (by simp [upd, *]), rfl, by simp⟩
  clear hr
  rcases h with h | h
  · obtain ⟨f0, rfl, u0_2, hf0⟩ := h
    simp -implicitDefEqProofs [r49_0, r49_1, r49_2, r49_3, r49_4, r49_5, r49_6, r49_7, r49_8, r49_9, r49_10, r49_11, r49_12, r49_13, h0, h1, call48, callz48, e48, call75, callz75, e75, -List.getElem?_map, -getElem?_pos, List.getElem?_cons_zero, map_get, upd_ne, frOf_set, frOf_get, frOf_getD, encInt, u0_2, hf0, attrsB, pathB]
  obtain ⟨f0, rfl, u0_1, hf0⟩ := h
  simp -implicitDefEqProofs [r49_0, r49_1, r49_2, r49_3, r49_4, r49_5, r49_6, r49_7, r49_8, r49_9, r49_10, r49_11, r49_12, r49_13, h0, h1, call48, callz48, e48, call75, callz75, e75, -List.getElem?_map, -getElem?_pos, List.getElem?_cons_zero, map_get, upd_ne, frOf_set, frOf_get, frOf_getD, encInt, u0_1, hf0] <;> try omega
  generalize hr : evCL T 0 (.loop l49_1) _ _ = r
  have h : R49_1 a_origin a_path a_next a_med a_pref a_comms  r := by rw [← hr]; exact L49_1 a_origin a_path a_next a_med a_pref a_comms h0 h1  (0) _ _ (by omega) ⟨_, rfl, (by simp [upd, *]), (by simp [upd, *]), (by simp [upd, *]), (by simp [upd, *]), rfl, by first | trivial | assumption | simp⟩
  clear hr
  rcases h with h | h
  · obtain ⟨f1, rfl, u1_2, hf1⟩ := h
    simp -implicitDefEqProofs [r49_0, r49_1, r49_2, r49_3, r49_4, r49_5, r49_6, r49_7, r49_8, r49_9, r49_10, r49_11, r49_12, r49_13, h0, h1, call48, callz48, e48, call75, callz75, e75, -List.getElem?_map, -getElem?_pos, List.getElem?_cons_zero, map_get, upd_ne, frOf_set, frOf_get, frOf_getD, encInt, u1_2, hf1, attrsB, commsB]
  obtain ⟨f1, rfl, u1_1, hf1⟩ := h
  cases hq0 : (inR a_origin 0 2 : Bool)
  · simp -implicitDefEqProofs [r49_0, r49_1, r49_2, r49_3, r49_4, r49_5, r49_6, r49_7, r49_8, r49_9, r49_10, r49_11, r49_12, r49_13, h0, h1, call48, callz48, e48, call75, callz75, e75, -List.getElem?_map, -getElem?_pos, List.getElem?_cons_zero, map_get, upd_ne, frOf_set, frOf_get, frOf_getD, encInt, u0_1, u1_1, hf0, hf1, hq0, attrsB, pathB, commsB] <;> try omega
  cases hq1 : (decide ((a_path.length : Int) ≤ 10) : Bool)
  · simp -implicitDefEqProofs [r49_0, r49_1, r49_2, r49_3, r49_4, r49_5, r49_6, r49_7, r49_8, r49_9, r49_10, r49_11, r49_12, r49_13, h0, h1, call48, callz48, e48, call75, callz75, e75, -List.getElem?_map, -getElem?_pos, List.getElem?_cons_zero, map_get, upd_ne, frOf_set, frOf_get, frOf_getD, encInt, u0_1, u1_1, hf0, hf1, hq0, hq1, attrsB, pathB, commsB] <;> try omega
  cases hq2 : (inR a_next 0 4294967295 : Bool)
  · simp -implicitDefEqProofs [r49_0, r49_1, r49_2, r49_3, r49_4, r49_5, r49_6, r49_7, r49_8, r49_9, r49_10, r49_11, r49_12, r49_13, h0, h1, call48, callz48, e48, call75, callz75, e75, -List.getElem?_map, -getElem?_pos, List.getElem?_cons_zero, map_get, upd_ne, frOf_set, frOf_get, frOf_getD, encInt, u0_1, u1_1, hf0, hf1, hq0, hq1, hq2, attrsB, pathB, commsB] <;> try omega
  cases hq3 : (inR a_med 0 1000000 : Bool)
  · simp -implicitDefEqProofs [r49_0, r49_1, r49_2, r49_3, r49_4, r49_5, r49_6, r49_7, r49_8, r49_9, r49_10, r49_11, r49_12, r49_13, h0, h1, call48, callz48, e48, call75, callz75, e75, -List.getElem?_map, -getElem?_pos, List.getElem?_cons_zero, map_get, upd_ne, frOf_set, frOf_get, frOf_getD, encInt, u0_1, u1_1, hf0, hf1, hq0, hq1, hq2, hq3, attrsB, pathB, commsB] <;> try omega
  cases hq4 : (inR a_pref 0 1000000 : Bool)
  · simp -implicitDefEqProofs [r49_0, r49_1, r49_2, r49_3, r49_4, r49_5, r49_6, r49_7, r49_8, r49_9, r49_10, r49_11, r49_12, r49_13, h0, h1, call48, callz48, e48, call75, callz75, e75, -List.getElem?_map, -getElem?_pos, List.getElem?_cons_zero, map_get, upd_ne, frOf_set, frOf_get, frOf_getD, encInt, u0_1, u1_1, hf0, hf1, hq0, hq1, hq2, hq3, hq4, attrsB, pathB, commsB] <;> try omega
  simp -implicitDefEqProofs [r49_0, r49_1, r49_2, r49_3, r49_4, r49_5, r49_6, r49_7, r49_8, r49_9, r49_10, r49_11, r49_12, r49_13, h0, h1, call48, callz48, e48, call75, callz75, e75, -List.getElem?_map, -getElem?_pos, List.getElem?_cons_zero, map_get, upd_ne, frOf_set, frOf_get, frOf_getD, encInt, u0_1, u1_1, hf0, hf1, hq0, hq1, hq2, hq3, hq4, attrsB, pathB, commsB] <;> try omega
-- impl.isOffer
@[simp] theorem call50 {m : Nat} (args : List AV) (S : St) : evCall T m (evFL T) 50 args S = lendC (evFL T 50) S (lendAll S i50.pes args) := evCall0 fn50 rfl rfl args S
@[simp] theorem callz50 (args : List AV) (S : St) : evCallFz T (evFL T) 50 args S = lendZ (evFL T 50) S i50.res (lendAll S i50.pes args) := evCallFz0 fn50 rfl rfl args S
@[simp] theorem pes50 : i50.pes = [[0, 0, 1, 0, 0, 0, 1]] := rfl
@[simp] theorem body50 : i50.body = c50 := rfl
@[simp] theorem kind50 : i50.kind = 0 := rfl
@[simp] theorem tree50 : i50.tree = false := rfl
@[simp] theorem ntmps50 : i50.ntmps = 11 := rfl
@[simp] theorem results50 : i50.results = [(ResultVar.tmp 2)] := rfl
@[simp] theorem res50 : i50.res = [[0]] := rfl
theorem e50 (a_peer : Int) (a_attrs_origin : Int) (a_attrs_path : (List Int)) (a_attrs_next : Int) (a_attrs_med : Int) (a_attrs_pref : Int) (a_attrs_comms : (List Int)) (h0 : a_attrs_path.length ≤ 1048576) (h1 : a_attrs_comms.length ≤ 1048576) : evFL T 50 [.agg [.int .i64 a_peer, .int .i64 a_attrs_origin, .ts .imm 1 (a_attrs_path.map encInt), .int .i64 a_attrs_next, .int .i64 a_attrs_med, .int .i64 a_attrs_pref, .ts .imm 1 (a_attrs_comms.map encInt)]] [] = some (.bool (inR a_peer 0 5 && attrsB (⟨a_peer, ⟨a_attrs_origin, a_attrs_path, a_attrs_next, a_attrs_med, a_attrs_pref, a_attrs_comms⟩⟩ : Offer).attrs), []) := by
  rw [evFL_at fn50 (by simp)]
  cases hq0 : (inR a_peer 0 5 : Bool)
  · simp -implicitDefEqProofs [c50, r50_0, r50_1, h0, h1, call76, callz76, e76, call77, callz77, e77, -List.getElem?_map, -getElem?_pos, List.getElem?_cons_zero, map_get, upd_ne, frOf_set, frOf_get, frOf_getD, hq0] <;> try omega
  simp -implicitDefEqProofs [c50, r50_0, r50_1, h0, h1, call76, callz76, e76, call77, callz77, e77, -List.getElem?_map, -getElem?_pos, List.getElem?_cons_zero, map_get, upd_ne, frOf_set, frOf_get, frOf_getD, hq0] <;> try omega
def offP (xs : List Offer) (j : Nat) : Bool := inR (nth xs j).peer 0 5 && attrsB (nth xs j).attrs && (j == 0 || decide ((nth xs (j - 1)).peer < (nth xs j).peer))
-- spec.GoodOffers
@[simp] theorem call13 {m : Nat} (args : List AV) (S : St) : evCall T m (evFL T) 13 args S = lendC (evFL T 13) S (lendAll S i13.pes args) := evCall0 fn13 rfl rfl args S
@[simp] theorem callz13 (args : List AV) (S : St) : evCallFz T (evFL T) 13 args S = lendZ (evFL T 13) S i13.res (lendAll S i13.pes args) := evCallFz0 fn13 rfl rfl args S
@[simp] theorem pes13 : i13.pes = [[7]] := rfl
@[simp] theorem body13 : i13.body = c13 := rfl
@[simp] theorem kind13 : i13.kind = 0 := rfl
@[simp] theorem tree13 : i13.tree = false := rfl
@[simp] theorem ntmps13 : i13.ntmps = 38 := rfl
@[simp] theorem results13 : i13.results = [(ResultVar.tmp 2)] := rfl
@[simp] theorem res13 : i13.res = [[0]] := rfl
def I13_0 (a : (List Offer))  (i : Nat) (fr : Fr) (S : St) : Prop := ∃ f : Nat → AV, ∃ G : St, fr = frOf 38 f ∧ f 0 = .ts .imm 7 (a.map (encOffer .imm)) ∧ f 5 = .ts .imm 7 (a.map (encOffer .imm)) ∧ f 6 = .int .i64 a.length ∧ f 7 = .int .i64 i ∧ S = G ∧ allB i (offP a) = true
def R13_0 (a : (List Offer))  (r : Option (Ex × Fr × St)) : Prop := (∃ f : Nat → AV, ∃ G : St, r = some (.ret, frOf 38 f, G) ∧ f 2 = .bool false ∧ allB a.length (offP a) = false) ∨ (∃ f : Nat → AV, ∃ G : St, r = some (.exit 0, frOf 38 f, G) ∧ allB a.length (offP a) = true)
theorem L13_0 (a : (List Offer)) (ha0 : a.length ≤ 1048576) (ha1 : ∀ y ∈ a, smOffer y)   : ∀ i fr S, i ≤ a.length → I13_0 a  i fr S → R13_0 a  (evCL T 0 (.loop l13_0) fr S) := by
  refine loopQ _ _ _ ?_ ?_
  · rintro i fr S hi ⟨f, G, rfl, t0, t5, t6, t7, rfl, hf⟩
    have hwi : IntKind.i64.wrap ((i : Int) + 1) = (i : Int) + 1 := wrap64 (by omega) (by omega)
    have hy := ha1 (nth a i) (nth_mem hi)
    simp only [smOffer] at hy
    obtain ⟨hy0, hy1⟩ := hy
    rcases i with _ | i
    · cases hc : inR (nth a 0).peer 0 5
      · simp -implicitDefEqProofs [r13_0, r13_1, r13_2, r13_3, r13_4, r13_5, r13_6, r13_7, l13_0, ha0, ha1, call48, callz48, e48, call49, callz49, e49, -List.getElem?_map, -getElem?_pos, List.getElem?_cons_zero, map_get, upd_ne, frOf_set, frOf_get, frOf_getD, encOffer, t0, t5, t6, t7, hi, hwi, hc, hy0, hy1]
        refine .ret _ _ (Or.inl ⟨_, _, rfl, (by first | rfl | assumption | simp [upd, *]), ?_⟩); exact allB_no hi (by simp [offP, hc])
      cases hd : attrsB (nth a 0).attrs
      · simp -implicitDefEqProofs [r13_0, r13_1, r13_2, r13_3, r13_4, r13_5, r13_6, r13_7, l13_0, ha0, ha1, call48, callz48, e48, call49, callz49, e49, -List.getElem?_map, -getElem?_pos, List.getElem?_cons_zero, map_get, upd_ne, frOf_set, frOf_get, frOf_getD, encOffer, t0, t5, t6, t7, hi, hwi, hc, hd, hy0, hy1]
        refine .ret _ _ (Or.inl ⟨_, _, rfl, (by first | rfl | assumption | simp [upd, *]), ?_⟩); exact allB_no hi (by simp [offP, hd])
      simp -implicitDefEqProofs [r13_0, r13_1, r13_2, r13_3, r13_4, r13_5, r13_6, r13_7, l13_0, ha0, ha1, call48, callz48, e48, call49, callz49, e49, -List.getElem?_map, -getElem?_pos, List.getElem?_cons_zero, map_get, upd_ne, frOf_set, frOf_get, frOf_getD, encOffer, t0, t5, t6, t7, hi, hwi, hc, hd, hy0, hy1]
      refine .go _ _ ⟨_, _, rfl, (by first | rfl | assumption | simp [upd, *]), (by first | rfl | assumption | simp [upd, *]), (by first | rfl | assumption | simp [upd, *]), (by first | rfl | assumption | simp [upd, *]), rfl, ?_⟩; simp [allB_succ, offP, hc, hd]
    · have hs : (i : Int) + 1 < (a.length : Int) := by omega
      have hz : (0 : Int) ≤ (i : Int) + 1 := by omega
      have hp : (0 : Int) < (i : Int) + 1 := by omega
      have hw0 : IntKind.i64.wrap (i : Int) = (i : Int) := wrap64 (by omega) (by omega)
      have hw1 : IntKind.i64.wrap ((i : Int) + 1 + 1) = (i : Int) + 1 + 1 := wrap64 (by omega) (by omega)
      have hi2 := Nat.lt_of_succ_lt hi
      cases hc : inR (nth a (i + 1)).peer 0 5
      · simp -implicitDefEqProofs [r13_0, r13_1, r13_2, r13_3, r13_4, r13_5, r13_6, r13_7, l13_0, ha0, ha1, call48, callz48, e48, call49, callz49, e49, -List.getElem?_map, -getElem?_pos, List.getElem?_cons_zero, map_get, upd_ne, frOf_set, frOf_get, frOf_getD, encOffer, t0, t5, t6, t7, hi, hi2, hs, hz, hp, hw0, hw1, hwi, hc, hy0, hy1]
        refine .ret _ _ (Or.inl ⟨_, _, rfl, (by first | rfl | assumption | simp [upd, *]), ?_⟩); exact allB_no hi (by simp [offP, hc])
      cases hd : attrsB (nth a (i + 1)).attrs
      · simp -implicitDefEqProofs [r13_0, r13_1, r13_2, r13_3, r13_4, r13_5, r13_6, r13_7, l13_0, ha0, ha1, call48, callz48, e48, call49, callz49, e49, -List.getElem?_map, -getElem?_pos, List.getElem?_cons_zero, map_get, upd_ne, frOf_set, frOf_get, frOf_getD, encOffer, t0, t5, t6, t7, hi, hi2, hs, hz, hp, hw0, hw1, hwi, hc, hd, hy0, hy1]
        refine .ret _ _ (Or.inl ⟨_, _, rfl, (by first | rfl | assumption | simp [upd, *]), ?_⟩); exact allB_no hi (by simp [offP, hd])
      by_cases he : (nth a (i + 1)).peer ≤ (nth a i).peer
      · simp -implicitDefEqProofs [r13_0, r13_1, r13_2, r13_3, r13_4, r13_5, r13_6, r13_7, l13_0, ha0, ha1, call48, callz48, e48, call49, callz49, e49, -List.getElem?_map, -getElem?_pos, List.getElem?_cons_zero, map_get, upd_ne, frOf_set, frOf_get, frOf_getD, encOffer, t0, t5, t6, t7, hi, hi2, hs, hz, hp, hw0, hw1, hwi, hc, hd, he, hy0, hy1]
        refine .ret _ _ (Or.inl ⟨_, _, rfl, (by first | rfl | assumption | simp [upd, *]), ?_⟩); exact allB_no hi (by simp [offP]; omega)
      · simp -implicitDefEqProofs [r13_0, r13_1, r13_2, r13_3, r13_4, r13_5, r13_6, r13_7, l13_0, ha0, ha1, call48, callz48, e48, call49, callz49, e49, -List.getElem?_map, -getElem?_pos, List.getElem?_cons_zero, map_get, upd_ne, frOf_set, frOf_get, frOf_getD, encOffer, t0, t5, t6, t7, hi, hi2, hs, hz, hp, hw0, hw1, hwi, hc, hd, he, hy0, hy1]
        refine .go _ _ ⟨_, _, rfl, (by first | rfl | assumption | simp [upd, *]), (by first | rfl | assumption | simp [upd, *]), (by first | rfl | assumption | simp [upd, *]), (by first | rfl | assumption | simp [upd, *]), rfl, ?_⟩; simp [allB_succ, offP, hc, hd] at hf ⊢; simp [hf]; omega
  · rintro fr S ⟨f, G, rfl, t0, t5, t6, t7, rfl, hf⟩
    simp -implicitDefEqProofs [r13_0, r13_1, r13_2, r13_3, r13_4, r13_5, r13_6, r13_7, l13_0, ha0, ha1, call48, callz48, e48, call49, callz49, e49, -List.getElem?_map, -getElem?_pos, List.getElem?_cons_zero, map_get, upd_ne, frOf_set, frOf_get, frOf_getD, encOffer, t0, t5, t6, t7]
    refine .exit _ _ _ (Or.inr ⟨_, _, rfl, ?_⟩)
    first | trivial | assumption | simp [*]
theorem e13 (a : (List Offer)) (ha0 : a.length ≤ 1048576) (ha1 : ∀ y ∈ a, smOffer y) : evFL T 13 [.ts .imm 7 (a.map (encOffer .imm))] [] = some (.bool (allB a.length (offP a)), []) := by
  rw [evFL_at fn13 (by simp)]
  simp -implicitDefEqProofs [c13, r13_0, r13_1, r13_2, r13_3, r13_4, r13_5, r13_6, r13_7, ha0, ha1, call48, callz48, e48, call49, callz49, e49, -List.getElem?_map, -getElem?_pos, List.getElem?_cons_zero, map_get, upd_ne, frOf_set, frOf_get, frOf_getD, encOffer]
  generalize hr : evCL T 0 (.loop l13_0) _ _ = r
  have h : R13_0 a  r := by rw [← hr]; exact L13_0 a ha0 ha1  (0) _ _ (by omega) ⟨_, _, rfl, (by simp [upd, *]), (by simp [upd, *]), (by simp [upd, *]), (by simp [upd, *]), rfl, by first | trivial | assumption | simp⟩
  clear hr
  rcases h with h | h
  · obtain ⟨f0, G, rfl, u0_2, hf0⟩ := h
    simp -implicitDefEqProofs [r13_0, r13_1, r13_2, r13_3, r13_4, r13_5, r13_6, r13_7, ha0, ha1, call48, callz48, e48, call49, callz49, e49, -List.getElem?_map, -getElem?_pos, List.getElem?_cons_zero, map_get, upd_ne, frOf_set, frOf_get, frOf_getD, encOffer, u0_2, hf0] <;> try omega
  obtain ⟨f0, G, rfl, hf0⟩ := h
  simp -implicitDefEqProofs [r13_0, r13_1, r13_2, r13_3, r13_4, r13_5, r13_6, r13_7, ha0, ha1, call48, callz48, e48, call49, callz49, e49, -List.getElem?_map, -getElem?_pos, List.getElem?_cons_zero, map_get, upd_ne, frOf_set, frOf_get, frOf_getD, encOffer, hf0] <;> try omega
-- impl.GoodOffers
@[simp] theorem call15 {m : Nat} (args : List AV) (S : St) : evCall T m (evFL T) 15 args S = lendC (evFL T 15) S (lendAll S i15.pes args) := evCall0 fn15 rfl rfl args S
@[simp] theorem callz15 (args : List AV) (S : St) : evCallFz T (evFL T) 15 args S = lendZ (evFL T 15) S i15.res (lendAll S i15.pes args) := evCallFz0 fn15 rfl rfl args S
@[simp] theorem pes15 : i15.pes = [[7]] := rfl
@[simp] theorem body15 : i15.body = c15 := rfl
@[simp] theorem kind15 : i15.kind = 0 := rfl
@[simp] theorem tree15 : i15.tree = false := rfl
@[simp] theorem ntmps15 : i15.ntmps = 31 := rfl
@[simp] theorem results15 : i15.results = [(ResultVar.tmp 2)] := rfl
@[simp] theorem res15 : i15.res = [[0]] := rfl
def I15_0 (a : (List Offer))  (i : Nat) (fr : Fr) (S : St) : Prop := ∃ f : Nat → AV, ∃ G : St, fr = frOf 31 f ∧ f 0 = .ts .imm 7 (a.map (encOffer .imm)) ∧ f 5 = .ts .imm 7 (a.map (encOffer .imm)) ∧ f 6 = .int .i64 a.length ∧ f 7 = .int .i64 i ∧ S = G ∧ allB i (offP a) = true
def R15_0 (a : (List Offer))  (r : Option (Ex × Fr × St)) : Prop := (∃ f : Nat → AV, ∃ G : St, r = some (.ret, frOf 31 f, G) ∧ f 2 = .bool false ∧ allB a.length (offP a) = false) ∨ (∃ f : Nat → AV, ∃ G : St, r = some (.exit 0, frOf 31 f, G) ∧ allB a.length (offP a) = true)
theorem L15_0 (a : (List Offer)) (ha0 : a.length ≤ 1048576) (ha1 : ∀ y ∈ a, smOffer y)   : ∀ i fr S, i ≤ a.length → I15_0 a  i fr S → R15_0 a  (evCL T 0 (.loop l15_0) fr S) := by
  refine loopQ _ _ _ ?_ ?_
  · rintro i fr S hi ⟨f, G, rfl, t0, t5, t6, t7, rfl, hf⟩
    have hwi : IntKind.i64.wrap ((i : Int) + 1) = (i : Int) + 1 := wrap64 (by omega) (by omega)
    have hy := ha1 (nth a i) (nth_mem hi)
    simp only [smOffer] at hy
    obtain ⟨hy0, hy1⟩ := hy
    rcases i with _ | i
    · cases hc : inR (nth a 0).peer 0 5
      · simp -implicitDefEqProofs [r15_0, r15_1, r15_2, r15_3, r15_4, r15_5, r15_6, r15_7, l15_0, ha0, ha1, call50, callz50, e50, -List.getElem?_map, -getElem?_pos, List.getElem?_cons_zero, map_get, upd_ne, frOf_set, frOf_get, frOf_getD, encOffer, t0, t5, t6, t7, hi, hwi, hc, hy0, hy1]
        refine .ret _ _ (Or.inl ⟨_, _, rfl, (by first | rfl | assumption | simp [upd, *]), ?_⟩); exact allB_no hi (by simp [offP, hc])
      cases hd : attrsB (nth a 0).attrs
      · simp -implicitDefEqProofs [r15_0, r15_1, r15_2, r15_3, r15_4, r15_5, r15_6, r15_7, l15_0, ha0, ha1, call50, callz50, e50, -List.getElem?_map, -getElem?_pos, List.getElem?_cons_zero, map_get, upd_ne, frOf_set, frOf_get, frOf_getD, encOffer, t0, t5, t6, t7, hi, hwi, hc, hd, hy0, hy1]
        refine .ret _ _ (Or.inl ⟨_, _, rfl, (by first | rfl | assumption | simp [upd, *]), ?_⟩); exact allB_no hi (by simp [offP, hd])
      simp -implicitDefEqProofs [r15_0, r15_1, r15_2, r15_3, r15_4, r15_5, r15_6, r15_7, l15_0, ha0, ha1, call50, callz50, e50, -List.getElem?_map, -getElem?_pos, List.getElem?_cons_zero, map_get, upd_ne, frOf_set, frOf_get, frOf_getD, encOffer, t0, t5, t6, t7, hi, hwi, hc, hd, hy0, hy1]
      refine .go _ _ ⟨_, _, rfl, (by first | rfl | assumption | simp [upd, *]), (by first | rfl | assumption | simp [upd, *]), (by first | rfl | assumption | simp [upd, *]), (by first | rfl | assumption | simp [upd, *]), rfl, ?_⟩; simp [allB_succ, offP, hc, hd]
    · have hs : (i : Int) + 1 < (a.length : Int) := by omega
      have hz : (0 : Int) ≤ (i : Int) + 1 := by omega
      have hp : (0 : Int) < (i : Int) + 1 := by omega
      have hw0 : IntKind.i64.wrap (i : Int) = (i : Int) := wrap64 (by omega) (by omega)
      have hw1 : IntKind.i64.wrap ((i : Int) + 1 + 1) = (i : Int) + 1 + 1 := wrap64 (by omega) (by omega)
      have hi2 := Nat.lt_of_succ_lt hi
      cases hc : inR (nth a (i + 1)).peer 0 5
      · simp -implicitDefEqProofs [r15_0, r15_1, r15_2, r15_3, r15_4, r15_5, r15_6, r15_7, l15_0, ha0, ha1, call50, callz50, e50, -List.getElem?_map, -getElem?_pos, List.getElem?_cons_zero, map_get, upd_ne, frOf_set, frOf_get, frOf_getD, encOffer, t0, t5, t6, t7, hi, hi2, hs, hz, hp, hw0, hw1, hwi, hc, hy0, hy1]
        refine .ret _ _ (Or.inl ⟨_, _, rfl, (by first | rfl | assumption | simp [upd, *]), ?_⟩); exact allB_no hi (by simp [offP, hc])
      cases hd : attrsB (nth a (i + 1)).attrs
      · simp -implicitDefEqProofs [r15_0, r15_1, r15_2, r15_3, r15_4, r15_5, r15_6, r15_7, l15_0, ha0, ha1, call50, callz50, e50, -List.getElem?_map, -getElem?_pos, List.getElem?_cons_zero, map_get, upd_ne, frOf_set, frOf_get, frOf_getD, encOffer, t0, t5, t6, t7, hi, hi2, hs, hz, hp, hw0, hw1, hwi, hc, hd, hy0, hy1]
        refine .ret _ _ (Or.inl ⟨_, _, rfl, (by first | rfl | assumption | simp [upd, *]), ?_⟩); exact allB_no hi (by simp [offP, hd])
      by_cases he : (nth a (i + 1)).peer ≤ (nth a i).peer
      · simp -implicitDefEqProofs [r15_0, r15_1, r15_2, r15_3, r15_4, r15_5, r15_6, r15_7, l15_0, ha0, ha1, call50, callz50, e50, -List.getElem?_map, -getElem?_pos, List.getElem?_cons_zero, map_get, upd_ne, frOf_set, frOf_get, frOf_getD, encOffer, t0, t5, t6, t7, hi, hi2, hs, hz, hp, hw0, hw1, hwi, hc, hd, he, hy0, hy1]
        refine .ret _ _ (Or.inl ⟨_, _, rfl, (by first | rfl | assumption | simp [upd, *]), ?_⟩); exact allB_no hi (by simp [offP]; omega)
      · simp -implicitDefEqProofs [r15_0, r15_1, r15_2, r15_3, r15_4, r15_5, r15_6, r15_7, l15_0, ha0, ha1, call50, callz50, e50, -List.getElem?_map, -getElem?_pos, List.getElem?_cons_zero, map_get, upd_ne, frOf_set, frOf_get, frOf_getD, encOffer, t0, t5, t6, t7, hi, hi2, hs, hz, hp, hw0, hw1, hwi, hc, hd, he, hy0, hy1]
        refine .go _ _ ⟨_, _, rfl, (by first | rfl | assumption | simp [upd, *]), (by first | rfl | assumption | simp [upd, *]), (by first | rfl | assumption | simp [upd, *]), (by first | rfl | assumption | simp [upd, *]), rfl, ?_⟩; simp [allB_succ, offP, hc, hd] at hf ⊢; simp [hf]; omega
  · rintro fr S ⟨f, G, rfl, t0, t5, t6, t7, rfl, hf⟩
    simp -implicitDefEqProofs [r15_0, r15_1, r15_2, r15_3, r15_4, r15_5, r15_6, r15_7, l15_0, ha0, ha1, call50, callz50, e50, -List.getElem?_map, -getElem?_pos, List.getElem?_cons_zero, map_get, upd_ne, frOf_set, frOf_get, frOf_getD, encOffer, t0, t5, t6, t7]
    refine .exit _ _ _ (Or.inr ⟨_, _, rfl, ?_⟩)
    first | trivial | assumption | simp [*]
theorem e15 (a : (List Offer)) (ha0 : a.length ≤ 1048576) (ha1 : ∀ y ∈ a, smOffer y) : evFL T 15 [.ts .imm 7 (a.map (encOffer .imm))] [] = some (.bool (allB a.length (offP a)), []) := by
  rw [evFL_at fn15 (by simp)]
  simp -implicitDefEqProofs [c15, r15_0, r15_1, r15_2, r15_3, r15_4, r15_5, r15_6, r15_7, ha0, ha1, call50, callz50, e50, -List.getElem?_map, -getElem?_pos, List.getElem?_cons_zero, map_get, upd_ne, frOf_set, frOf_get, frOf_getD, encOffer]
  generalize hr : evCL T 0 (.loop l15_0) _ _ = r
  have h : R15_0 a  r := by rw [← hr]; exact L15_0 a ha0 ha1  (0) _ _ (by omega) ⟨_, _, rfl, (by simp [upd, *]), (by simp [upd, *]), (by simp [upd, *]), (by simp [upd, *]), rfl, by first | trivial | assumption | simp⟩
  clear hr
  rcases h with h | h
  · obtain ⟨f0, G, rfl, u0_2, hf0⟩ := h
    simp -implicitDefEqProofs [r15_0, r15_1, r15_2, r15_3, r15_4, r15_5, r15_6, r15_7, ha0, ha1, call50, callz50, e50, -List.getElem?_map, -getElem?_pos, List.getElem?_cons_zero, map_get, upd_ne, frOf_set, frOf_get, frOf_getD, encOffer, u0_2, hf0] <;> try omega
  obtain ⟨f0, G, rfl, hf0⟩ := h
  simp -implicitDefEqProofs [r15_0, r15_1, r15_2, r15_3, r15_4, r15_5, r15_6, r15_7, ha0, ha1, call50, callz50, e50, -List.getElem?_map, -getElem?_pos, List.getElem?_cons_zero, map_get, upd_ne, frOf_set, frOf_get, frOf_getD, encOffer, hf0] <;> try omega
end Go.Pi.Ytlcanbihlfncoaa
