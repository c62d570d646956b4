/- What functions of the program answer, and that the law answers true at every input; no condition -/
import Derived.Test.YtpfoleebeamgpaaIsStableTabIsStable
import Derived.Test.YtpfoleebeamgpaaPiC
set_option linter.all false
/- Functions of the program, by equations. -/
namespace Go.Pi.Ytpfoleebeamgpaa.IsStable
open Go Go.Proofs Go.Pi 
set_option maxRecDepth 100000
set_option linter.unusedSimpArgs false
set_option linter.unusedVariables false
def encInt (x : Int) : List AV := [.int .i64 x]
@[simp] theorem own_encInt (x : Int) : ownOnlyL (encInt x) = true := by simp [encInt, ownOnlyL, ownOnly]
@[simp] theorem setQL_encInt (q : Ql) (x : Int) : setQL q (encInt x) = encInt x := rfl
def encLInt (q : Ql) (x : (List Int)) : List AV := [.ts q 1 (x.map encInt)]
@[simp] theorem own_encLInt (x : (List Int)) : ownOnlyL (encLInt .own x) = true := by simp [encLInt, ownOnlyL, ownOnly]
@[simp] theorem setQL_encLInt (q q1 : Ql) (x : (List Int)) : setQL q (encLInt q1 x) = encLInt q x := by simp [encLInt, Function.comp_def]
def smLInt (x : (List Int)) : Prop := (x.length ≤ 1048576)
def smsLInt (x : List (List Int)) : Prop := ∀ y ∈ x, smLInt y
def wfLInt (x : (List Int)) : Prop := (x.length ≤ 9223372036854775807)
def wfsLInt (x : List (List Int)) : Prop := ∀ y ∈ x, wfLInt y
def szLInt (x : (List Int)) (l : Int) : Int := szL x.length (l)
theorem szLInt_le (x : (List Int)) (l : Int) (h : 0 ≤ l) : szLInt x l ≤ l ∧ -1 ≤ szLInt x l ∧ (0 ≤ szLInt x l → l ≤ 1048576 → smLInt x) := szL_le x.length l h
def encLLInt (q : Ql) (x : (List (List Int))) : List AV := [.ts q 1 (x.map (encLInt q))]
@[simp] theorem own_encLLInt (x : (List (List Int))) : ownOnlyL (encLLInt .own x) = true := by simp [encLLInt, ownOnlyL, ownOnly]
@[simp] theorem setQL_encLLInt (q q1 : Ql) (x : (List (List Int))) : setQL q (encLLInt q1 x) = encLLInt q x := by simp [encLLInt, Function.comp_def]
def smLLInt (x : (List (List Int))) : Prop := (x.length ≤ 1048576) ∧ (smsLInt x)
def smsLLInt (x : List (List (List Int))) : Prop := ∀ y ∈ x, smLLInt y
def wfLLInt (x : (List (List Int))) : Prop := (x.length ≤ 9223372036854775807) ∧ (wfsLInt x)
def wfsLLInt (x : List (List (List Int))) : Prop := ∀ y ∈ x, wfLLInt y
def szLLInt (x : (List (List Int))) (l : Int) : Int := szS szLInt x (l)
theorem szLLInt_le (x : (List (List Int))) (l : Int) (h : 0 ≤ l) : szLLInt x l ≤ l ∧ -1 ≤ szLLInt x l ∧ (0 ≤ szLLInt x l → l ≤ 1048576 → smLLInt x) := szS_le (fun y _ l h => szLInt_le y l h) l h
def encLLLInt (q : Ql) (x : (List (List (List Int)))) : List AV := [.ts q 1 (x.map (encLLInt q))]
@[simp] theorem own_encLLLInt (x : (List (List (List Int)))) : ownOnlyL (encLLLInt .own x) = true := by simp [encLLLInt, ownOnlyL, ownOnly]
@[simp] theorem setQL_encLLLInt (q q1 : Ql) (x : (List (List (List Int)))) : setQL q (encLLLInt q1 x) = encLLLInt q x := by simp [encLLLInt, Function.comp_def]
def smLLLInt (x : (List (List (List Int)))) : Prop := (x.length ≤ 1048576) ∧ (smsLLInt x)
def smsLLLInt (x : List (List (List (List Int)))) : Prop := ∀ y ∈ x, smLLLInt y
def wfLLLInt (x : (List (List (List Int)))) : Prop := (x.length ≤ 9223372036854775807) ∧ (wfsLLInt x)
def wfsLLLInt (x : List (List (List (List Int)))) : Prop := ∀ y ∈ x, wfLLLInt y
def szLLLInt (x : (List (List (List Int)))) (l : Int) : Int := szS szLLInt x (l)
theorem szLLLInt_le (x : (List (List (List Int)))) (l : Int) (h : 0 ≤ l) : szLLLInt x l ≤ l ∧ -1 ≤ szLLLInt x l ∧ (0 ≤ szLLLInt x l → l ≤ 1048576 → smLLLInt x) := szS_le (fun y _ l h => szLLInt_le y l h) l h
structure Spp where
  ranked : (List (List (List Int)))
  deriving Inhabited
@[simp] theorem Spp.eta (x : Spp) : (⟨x.ranked⟩ : Spp) = x := rfl
def encSpp (q : Ql) (x : Spp) : List AV := [.ts q 1 (x.ranked.map (encLLInt q))]
@[simp] theorem own_encSpp (x : Spp) : ownOnlyL (encSpp .own x) = true := by simp [encSpp, ownOnlyL, ownOnly]
@[simp] theorem setQL_encSpp (q q1 : Ql) (x : Spp) : setQL q (encSpp q1 x) = encSpp q x := by simp [encSpp, Function.comp_def]
def smSpp (x : Spp) : Prop := (x.ranked.length ≤ 1048576) ∧ (smsLLInt x.ranked)
def smsSpp (x : List Spp) : Prop := ∀ y ∈ x, smSpp y
def wfSpp (x : Spp) : Prop := (x.ranked.length ≤ 9223372036854775807) ∧ (wfsLLInt x.ranked)
def wfsSpp (x : List Spp) : Prop := ∀ y ∈ x, wfSpp y
def szSpp (x : Spp) (l : Int) : Int := szThen (szLLLInt x.ranked l) fun l => l
theorem szSpp_le (x : Spp) (l : Int) (h : 0 ≤ l) : szSpp x l ≤ l ∧ -1 ≤ szSpp x l ∧ (0 ≤ szSpp x l → l ≤ 1048576 → smSpp x) := by
  simp only [szSpp, szThen]
  have h0 := szLLLInt_le x.ranked (l) (by omega)
  by_cases hc0 : szLLLInt x.ranked (l) < 0
  · simp only [hc0, if_true, if_false]; exact ⟨by omega, by omega, fun h => by omega⟩
  simp only [hc0, if_false]
  refine ⟨by omega, by omega, fun h9 h8 => ?_⟩
  have k0 := h0.2.2 (by omega) (by omega)
  simp only [smSpp, smLLLInt] at *
  refine ⟨?_, ?_⟩ <;> first | omega | assumption | simp_all
-- laws.szIntS
@[simp] theorem call100 {m : Nat} (args : List AV) (S : St) : evCall T m (evFL T) 100 args S = lendC (evFL T 100) S (lendAll S i100.pes args) := evCall0 fn100 rfl rfl args S
@[simp] theorem callz100 (args : List AV) (S : St) : evCallFz T (evFL T) 100 args S = lendZ (evFL T 100) S i100.res (lendAll S i100.pes args) := evCallFz0 fn100 rfl rfl args S
@[simp] theorem pes100 : i100.pes = [[1], [0]] := rfl
@[simp] theorem body100 : i100.body = c100 := rfl
@[simp] theorem kind100 : i100.kind = 0 := rfl
@[simp] theorem tree100 : i100.tree = false := rfl
@[simp] theorem ntmps100 : i100.ntmps = 12 := rfl
@[simp] theorem results100 : i100.results = [(ResultVar.tmp 4)] := rfl
@[simp] theorem res100 : i100.res = [[0]] := rfl
theorem e100 (a : (List Int)) (l : Int) (hw0 : a.length ≤ 9223372036854775807) (hl0 : 0 ≤ l) (hl1 : l ≤ 1048576) : evFL T 100 [.ts .imm 1 (a.map encInt), .int .i64 l] [] = some (.int .i64 (szLInt a l), []) := by
  rw [evFL_at fn100 (by simp)]
  have hn : IntKind.i64.wrap (l - (a.length : Int)) = l - (a.length : Int) := wrap64 (by omega) (by omega)
  by_cases hc0 : l - (a.length : Int) < 0
  all_goals simp -implicitDefEqProofs [c100, r100_0, r100_1, r100_2, r100_3, r100_4, hw0, hl0, hl1, -List.getElem?_map, -getElem?_pos, -Int.pred_toNat, List.getElem?_cons_zero, map_get, -List.map_take, -List.map_drop, take_map, drop_map, upd_ne, frOf_set, frOf_get, frOf_getD, hn, szL, szLInt, hc0]
-- laws.szIntSS
@[simp] theorem call86 {m : Nat} (args : List AV) (S : St) : evCall T m (evFL T) 86 args S = lendC (evFL T 86) S (lendAll S i86.pes args) := evCall0 fn86 rfl rfl args S
@[simp] theorem callz86 (args : List AV) (S : St) : evCallFz T (evFL T) 86 args S = lendZ (evFL T 86) S i86.res (lendAll S i86.pes args) := evCallFz0 fn86 rfl rfl args S
@[simp] theorem pes86 : i86.pes = [[1], [0]] := rfl
@[simp] theorem body86 : i86.body = c86 := rfl
@[simp] theorem kind86 : i86.kind = 0 := rfl
@[simp] theorem tree86 : i86.tree = false := rfl
@[simp] theorem ntmps86 : i86.ntmps = 27 := rfl
@[simp] theorem results86 : i86.results = [(ResultVar.tmp 4)] := rfl
@[simp] theorem res86 : i86.res = [[0]] := rfl
def I86_0 (a : (List (List Int))) (l : Int)  (i : Nat) (fr : Fr) (S : St) : Prop := ∃ f : Nat → AV, ∃ l1 : Int, fr = frOf 27 f ∧ f 0 = .ts .imm 1 (a.map (encLInt .imm)) ∧ f 1 = .int .i64 l1 ∧ f 5 = .int .i64 i ∧ S = [] ∧ 0 ≤ l1 ∧ l1 ≤ 1048576 ∧ szGo szLInt (a.drop i) l1 = szGo szLInt a (l - (a.length : Int))
def R86_0 (a : (List (List Int))) (l : Int)  (r : Option (Ex × Fr × St)) : Prop := (∃ f : Nat → AV, r = some (.ret, frOf 27 f, []) ∧ f 4 = .int .i64 (-1) ∧ szGo szLInt a (l - (a.length : Int)) = -1) ∨ (∃ f : Nat → AV, ∃ l2 : Int, r = some (.exit 0, frOf 27 f, []) ∧ f 1 = .int .i64 l2 ∧ szGo szLInt a (l - (a.length : Int)) = l2)
theorem L86_0 (a : (List (List Int))) (l : Int) (hw0 : a.length ≤ 9223372036854775807) (hw1 : wfsLInt a) (hl0 : 0 ≤ l) (hl1 : l ≤ 1048576)   : ∀ i fr S, i ≤ a.length → I86_0 a l  i fr S → R86_0 a l  (evCL T 0 (.loop l86_0) fr S) := by
  refine loopQ _ _ _ ?_ ?_
  · rintro i fr S hi ⟨f, l1, rfl, t0, t1, t5, rfl, hf⟩
    have hn : IntKind.i64.wrap (l - (a.length : Int)) = l - (a.length : Int) := wrap64 (by omega) (by omega)
    have hwi : IntKind.i64.wrap ((i : Int) + 1) = (i : Int) + 1 := wrap64 (by omega) (by omega)
    have hi9 : True := trivial
    obtain ⟨hk0, hk1, hg⟩ := hf
    rw [drop_nth hi] at hg
    have hy := hw1 (nth a i) (nth_mem hi)
    simp only [wfLInt] at hy
    have ef := e100 ((nth a i)) l1 hy hk0 hk1
    have hle := szLInt_le (nth a i) l1 hk0
    by_cases hc : szLInt (nth a i) l1 < 0
    · simp -implicitDefEqProofs [r86_0, r86_1, r86_2, r86_3, r86_4, r86_5, r86_6, r86_7, r86_8, r86_9, r86_10, l86_0, hw0, hw1, hl0, hl1, call100, callz100, e100, -List.getElem?_map, -getElem?_pos, -Int.pred_toNat, List.getElem?_cons_zero, map_get, -List.map_take, -List.map_drop, take_map, drop_map, upd_ne, frOf_set, frOf_get, frOf_getD, hn, encLInt, szLLInt, t0, t1, t5, hi, hwi, hk0, hk1, hc, ef, hy]
      refine .ret _ _ (Or.inl ⟨_, rfl, (by first | rfl | assumption | simp [upd, *]), ?_⟩); simp [szGo, hc] at hg; exact hg.symm
    · simp -implicitDefEqProofs [r86_0, r86_1, r86_2, r86_3, r86_4, r86_5, r86_6, r86_7, r86_8, r86_9, r86_10, l86_0, hw0, hw1, hl0, hl1, call100, callz100, e100, -List.getElem?_map, -getElem?_pos, -Int.pred_toNat, List.getElem?_cons_zero, map_get, -List.map_take, -List.map_drop, take_map, drop_map, upd_ne, frOf_set, frOf_get, frOf_getD, hn, encLInt, szLLInt, t0, t1, t5, hi, hwi, hk0, hk1, hc, ef, hy]
      refine .go _ _ ⟨_, _, rfl, (by first | rfl | assumption | simp [upd, *]), (by first | rfl | assumption | simp [upd, *]), (by first | rfl | assumption | simp [upd, *]), rfl, ?_⟩; simp only [szGo, hc, if_false] at hg; exact ⟨by omega, by omega, hg⟩
  · rintro fr S ⟨f, l1, rfl, t0, t1, t5, rfl, hf⟩
    have hn : IntKind.i64.wrap (l - (a.length : Int)) = l - (a.length : Int) := wrap64 (by omega) (by omega)
    simp -implicitDefEqProofs [r86_0, r86_1, r86_2, r86_3, r86_4, r86_5, r86_6, r86_7, r86_8, r86_9, r86_10, l86_0, hw0, hw1, hl0, hl1, call100, callz100, e100, -List.getElem?_map, -getElem?_pos, -Int.pred_toNat, List.getElem?_cons_zero, map_get, -List.map_take, -List.map_drop, take_map, drop_map, upd_ne, frOf_set, frOf_get, frOf_getD, hn, encLInt, szLLInt, t0, t1, t5]
    refine .exit _ _ _ (Or.inr ⟨_, _, rfl, (by first | rfl | assumption | simp [upd, *]), ?_⟩)
    simp [szGo] at hf; exact hf.2.2.symm
theorem e86 (a : (List (List Int))) (l : Int) (hw0 : a.length ≤ 9223372036854775807) (hw1 : wfsLInt a) (hl0 : 0 ≤ l) (hl1 : l ≤ 1048576) : evFL T 86 [.ts .imm 1 (a.map (encLInt .imm)), .int .i64 l] [] = some (.int .i64 (szLLInt a l), []) := by
  rw [evFL_at fn86 (by simp)]
  have hn : IntKind.i64.wrap (l - (a.length : Int)) = l - (a.length : Int) := wrap64 (by omega) (by omega)
  by_cases hc : l - (a.length : Int) < 0
  · simp -implicitDefEqProofs [c86, r86_0, r86_1, r86_2, r86_3, r86_4, r86_5, r86_6, r86_7, r86_8, r86_9, r86_10, hw0, hw1, hl0, hl1, call100, callz100, e100, -List.getElem?_map, -getElem?_pos, -Int.pred_toNat, List.getElem?_cons_zero, map_get, -List.map_take, -List.map_drop, take_map, drop_map, upd_ne, frOf_set, frOf_get, frOf_getD, hn, encLInt, szLLInt, hc, szS]
  simp -implicitDefEqProofs [c86, r86_0, r86_1, r86_2, r86_3, r86_4, r86_5, r86_6, r86_7, r86_8, r86_9, r86_10, hw0, hw1, hl0, hl1, call100, callz100, e100, -List.getElem?_map, -getElem?_pos, -Int.pred_toNat, List.getElem?_cons_zero, map_get, -List.map_take, -List.map_drop, take_map, drop_map, upd_ne, frOf_set, frOf_get, frOf_getD, hn, encLInt, szLLInt, hc]
  generalize hr : evCL T 0 (.loop l86_0) _ _ = r
  have h : R86_0 a l  r := by rw [← hr]; exact L86_0 a l hw0 hw1 hl0 hl1  (0) _ _ (by omega) ⟨_, (l - (a.length : Int)), rfl, (by simp [upd, *]), (by simp [upd, *]), (by simp [upd, *]), rfl, ⟨by omega, by omega, rfl⟩⟩
  clear hr
  rcases h with h | h
  · obtain ⟨f0, rfl, u0_4, hf0⟩ := h
    simp -implicitDefEqProofs [r86_0, r86_1, r86_2, r86_3, r86_4, r86_5, r86_6, r86_7, r86_8, r86_9, r86_10, hw0, hw1, hl0, hl1, call100, callz100, e100, -List.getElem?_map, -getElem?_pos, -Int.pred_toNat, List.getElem?_cons_zero, map_get, -List.map_take, -List.map_drop, take_map, drop_map, upd_ne, frOf_set, frOf_get, frOf_getD, hn, encLInt, szLLInt, u0_4, hf0, hc, szS]
  obtain ⟨f0, l2, rfl, u0_1, hf0⟩ := h
  simp -implicitDefEqProofs [r86_0, r86_1, r86_2, r86_3, r86_4, r86_5, r86_6, r86_7, r86_8, r86_9, r86_10, hw0, hw1, hl0, hl1, call100, callz100, e100, -List.getElem?_map, -getElem?_pos, -Int.pred_toNat, List.getElem?_cons_zero, map_get, -List.map_take, -List.map_drop, take_map, drop_map, upd_ne, frOf_set, frOf_get, frOf_getD, hn, encLInt, szLLInt, u0_1, hf0, hc, szS]
-- laws.szIntSSS
@[simp] theorem call46 {m : Nat} (args : List AV) (S : St) : evCall T m (evFL T) 46 args S = lendC (evFL T 46) S (lendAll S i46.pes args) := evCall0 fn46 rfl rfl args S
@[simp] theorem callz46 (args : List AV) (S : St) : evCallFz T (evFL T) 46 args S = lendZ (evFL T 46) S i46.res (lendAll S i46.pes args) := evCallFz0 fn46 rfl rfl args S
@[simp] theorem pes46 : i46.pes = [[1], [0]] := rfl
@[simp] theorem body46 : i46.body = c46 := rfl
@[simp] theorem kind46 : i46.kind = 0 := rfl
@[simp] theorem tree46 : i46.tree = false := rfl
@[simp] theorem ntmps46 : i46.ntmps = 27 := rfl
@[simp] theorem results46 : i46.results = [(ResultVar.tmp 4)] := rfl
@[simp] theorem res46 : i46.res = [[0]] := rfl
def I46_0 (a : (List (List (List Int)))) (l : Int)  (i : Nat) (fr : Fr) (S : St) : Prop := ∃ f : Nat → AV, ∃ l1 : Int, fr = frOf 27 f ∧ f 0 = .ts .imm 1 (a.map (encLLInt .imm)) ∧ f 1 = .int .i64 l1 ∧ f 5 = .int .i64 i ∧ S = [] ∧ 0 ≤ l1 ∧ l1 ≤ 1048576 ∧ szGo szLLInt (a.drop i) l1 = szGo szLLInt a (l - (a.length : Int))
def R46_0 (a : (List (List (List Int)))) (l : Int)  (r : Option (Ex × Fr × St)) : Prop := (∃ f : Nat → AV, r = some (.ret, frOf 27 f, []) ∧ f 4 = .int .i64 (-1) ∧ szGo szLLInt a (l - (a.length : Int)) = -1) ∨ (∃ f : Nat → AV, ∃ l2 : Int, r = some (.exit 0, frOf 27 f, []) ∧ f 1 = .int .i64 l2 ∧ szGo szLLInt a (l - (a.length : Int)) = l2)
theorem L46_0 (a : (List (List (List Int)))) (l : Int) (hw0 : a.length ≤ 9223372036854775807) (hw1 : wfsLLInt a) (hl0 : 0 ≤ l) (hl1 : l ≤ 1048576)   : ∀ i fr S, i ≤ a.length → I46_0 a l  i fr S → R46_0 a l  (evCL T 0 (.loop l46_0) fr S) := by
  refine loopQ _ _ _ ?_ ?_
  · rintro i fr S hi ⟨f, l1, rfl, t0, t1, t5, rfl, hf⟩
    have hn : IntKind.i64.wrap (l - (a.length : Int)) = l - (a.length : Int) := wrap64 (by omega) (by omega)
    have hwi : IntKind.i64.wrap ((i : Int) + 1) = (i : Int) + 1 := wrap64 (by omega) (by omega)
    have hi9 : True := trivial
    obtain ⟨hk0, hk1, hg⟩ := hf
    rw [drop_nth hi] at hg
    have hy := hw1 (nth a i) (nth_mem hi)
    simp only [wfLLInt] at hy
    obtain ⟨hy0, hy1⟩ := hy
    have ef := e86 ((nth a i)) l1 hy0 hy1 hk0 hk1
    have hle := szLLInt_le (nth a i) l1 hk0
    by_cases hc : szLLInt (nth a i) l1 < 0
    · simp -implicitDefEqProofs [r46_0, r46_1, r46_2, r46_3, r46_4, r46_5, r46_6, r46_7, r46_8, r46_9, r46_10, l46_0, hw0, hw1, hl0, hl1, call86, callz86, e86, -List.getElem?_map, -getElem?_pos, -Int.pred_toNat, List.getElem?_cons_zero, map_get, -List.map_take, -List.map_drop, take_map, drop_map, upd_ne, frOf_set, frOf_get, frOf_getD, hn, encLLInt, szLLLInt, t0, t1, t5, hi, hwi, hk0, hk1, hc, ef, hy0, hy1]
      refine .ret _ _ (Or.inl ⟨_, rfl, (by first | rfl | assumption | simp [upd, *]), ?_⟩); simp [szGo, hc] at hg; exact hg.symm
    · simp -implicitDefEqProofs [r46_0, r46_1, r46_2, r46_3, r46_4, r46_5, r46_6, r46_7, r46_8, r46_9, r46_10, l46_0, hw0, hw1, hl0, hl1, call86, callz86, e86, -List.getElem?_map, -getElem?_pos, -Int.pred_toNat, List.getElem?_cons_zero, map_get, -List.map_take, -List.map_drop, take_map, drop_map, upd_ne, frOf_set, frOf_get, frOf_getD, hn, encLLInt, szLLLInt, t0, t1, t5, hi, hwi, hk0, hk1, hc, ef, hy0, hy1]
      refine .go _ _ ⟨_, _, rfl, (by first | rfl | assumption | simp [upd, *]), (by first | rfl | assumption | simp [upd, *]), (by first | rfl | assumption | simp [upd, *]), rfl, ?_⟩; simp only [szGo, hc, if_false] at hg; exact ⟨by omega, by omega, hg⟩
  · rintro fr S ⟨f, l1, rfl, t0, t1, t5, rfl, hf⟩
    have hn : IntKind.i64.wrap (l - (a.length : Int)) = l - (a.length : Int) := wrap64 (by omega) (by omega)
    simp -implicitDefEqProofs [r46_0, r46_1, r46_2, r46_3, r46_4, r46_5, r46_6, r46_7, r46_8, r46_9, r46_10, l46_0, hw0, hw1, hl0, hl1, call86, callz86, e86, -List.getElem?_map, -getElem?_pos, -Int.pred_toNat, List.getElem?_cons_zero, map_get, -List.map_take, -List.map_drop, take_map, drop_map, upd_ne, frOf_set, frOf_get, frOf_getD, hn, encLLInt, szLLLInt, t0, t1, t5]
    refine .exit _ _ _ (Or.inr ⟨_, _, rfl, (by first | rfl | assumption | simp [upd, *]), ?_⟩)
    simp [szGo] at hf; exact hf.2.2.symm
theorem e46 (a : (List (List (List Int)))) (l : Int) (hw0 : a.length ≤ 9223372036854775807) (hw1 : wfsLLInt a) (hl0 : 0 ≤ l) (hl1 : l ≤ 1048576) : evFL T 46 [.ts .imm 1 (a.map (encLLInt .imm)), .int .i64 l] [] = some (.int .i64 (szLLLInt a l), []) := by
  rw [evFL_at fn46 (by simp)]
  have hn : IntKind.i64.wrap (l - (a.length : Int)) = l - (a.length : Int) := wrap64 (by omega) (by omega)
  by_cases hc : l - (a.length : Int) < 0
  · simp -implicitDefEqProofs [c46, r46_0, r46_1, r46_2, r46_3, r46_4, r46_5, r46_6, r46_7, r46_8, r46_9, r46_10, hw0, hw1, hl0, hl1, call86, callz86, e86, -List.getElem?_map, -getElem?_pos, -Int.pred_toNat, List.getElem?_cons_zero, map_get, -List.map_take, -List.map_drop, take_map, drop_map, upd_ne, frOf_set, frOf_get, frOf_getD, hn, encLLInt, szLLLInt, hc, szS]
  simp -implicitDefEqProofs [c46, r46_0, r46_1, r46_2, r46_3, r46_4, r46_5, r46_6, r46_7, r46_8, r46_9, r46_10, hw0, hw1, hl0, hl1, call86, callz86, e86, -List.getElem?_map, -getElem?_pos, -Int.pred_toNat, List.getElem?_cons_zero, map_get, -List.map_take, -List.map_drop, take_map, drop_map, upd_ne, frOf_set, frOf_get, frOf_getD, hn, encLLInt, szLLLInt, hc]
  generalize hr : evCL T 0 (.loop l46_0) _ _ = r
  have h : R46_0 a l  r := by rw [← hr]; exact L46_0 a l hw0 hw1 hl0 hl1  (0) _ _ (by omega) ⟨_, (l - (a.length : Int)), rfl, (by simp [upd, *]), (by simp [upd, *]), (by simp [upd, *]), rfl, ⟨by omega, by omega, rfl⟩⟩
  clear hr
  rcases h with h | h
  · obtain ⟨f0, rfl, u0_4, hf0⟩ := h
    simp -implicitDefEqProofs [r46_0, r46_1, r46_2, r46_3, r46_4, r46_5, r46_6, r46_7, r46_8, r46_9, r46_10, hw0, hw1, hl0, hl1, call86, callz86, e86, -List.getElem?_map, -getElem?_pos, -Int.pred_toNat, List.getElem?_cons_zero, map_get, -List.map_take, -List.map_drop, take_map, drop_map, upd_ne, frOf_set, frOf_get, frOf_getD, hn, encLLInt, szLLLInt, u0_4, hf0, hc, szS]
  obtain ⟨f0, l2, rfl, u0_1, hf0⟩ := h
  simp -implicitDefEqProofs [r46_0, r46_1, r46_2, r46_3, r46_4, r46_5, r46_6, r46_7, r46_8, r46_9, r46_10, hw0, hw1, hl0, hl1, call86, callz86, e86, -List.getElem?_map, -getElem?_pos, -Int.pred_toNat, List.getElem?_cons_zero, map_get, -List.map_take, -List.map_drop, take_map, drop_map, upd_ne, frOf_set, frOf_get, frOf_getD, hn, encLLInt, szLLLInt, u0_1, hf0, hc, szS]
-- laws.szSpp
@[simp] theorem call13 {m : Nat} (args : List AV) (S : St) : evCall T m (evFL T) 13 args S = lendC (evFL T 13) S (lendAll S i13.pes args) := evCall0 fn13 rfl rfl args S
@[simp] theorem callz13 (args : List AV) (S : St) : evCallFz T (evFL T) 13 args S = lendZ (evFL T 13) S i13.res (lendAll S i13.pes args) := evCallFz0 fn13 rfl rfl args S
@[simp] theorem pes13 : i13.pes = [[1], [0]] := rfl
@[simp] theorem body13 : i13.body = c13 := rfl
@[simp] theorem kind13 : i13.kind = 0 := rfl
@[simp] theorem tree13 : i13.tree = false := rfl
@[simp] theorem ntmps13 : i13.ntmps = 12 := rfl
@[simp] theorem results13 : i13.results = [(ResultVar.tmp 4)] := rfl
@[simp] theorem res13 : i13.res = [[0]] := rfl
theorem e13 (a_ranked : (List (List (List Int)))) (l : Int) (hw0 : a_ranked.length ≤ 9223372036854775807) (hw1 : wfsLLInt a_ranked) (hl0 : 0 ≤ l) (hl1 : l ≤ 1048576) : evFL T 13 [.agg [.ts .imm 1 (a_ranked.map (encLLInt .imm))], .int .i64 l] [] = some (.int .i64 (szSpp (⟨a_ranked⟩ : Spp) l), []) := by
  rw [evFL_at fn13 (by simp)]
  have hle0 := szLLLInt_le (a_ranked : (List (List (List Int)))) (l) (by omega)
  have ef0 := e46 a_ranked (l) hw0 hw1 (by omega) (by omega)
  by_cases hc0 : szLLLInt (a_ranked : (List (List (List Int)))) (l) < 0
  · simp -implicitDefEqProofs [c13, r13_0, r13_1, r13_2, r13_3, r13_4, hw0, hw1, hl0, hl1, call46, callz46, e46, -List.getElem?_map, -getElem?_pos, -Int.pred_toNat, List.getElem?_cons_zero, map_get, -List.map_take, -List.map_drop, take_map, drop_map, upd_ne, frOf_set, frOf_get, frOf_getD, szSpp, szThen, ef0, hc0]
  have hz0 : 0 ≤ szLLLInt (a_ranked : (List (List (List Int)))) (l) := by omega
  have hu0 : szLLLInt (a_ranked : (List (List (List Int)))) (l) ≤ 1048576 := by omega
  simp -implicitDefEqProofs [c13, r13_0, r13_1, r13_2, r13_3, r13_4, hw0, hw1, hl0, hl1, call46, callz46, e46, -List.getElem?_map, -getElem?_pos, -Int.pred_toNat, List.getElem?_cons_zero, map_get, -List.map_take, -List.map_drop, take_map, drop_map, upd_ne, frOf_set, frOf_get, frOf_getD, szSpp, szThen, hc0, hz0, hu0, ef0]
theorem fset19 {a : (List Int)} {i : Nat} (h : i < a.length) : (filled encInt [.int .i64 0] a i).set i [.int .i64 (nth a i)] = filled encInt [.int .i64 0] a (i + 1) := filled_set h
-- laws.toIntS
@[simp] theorem call19 {m : Nat} (args : List AV) (S : St) : evCall T m (evFL T) 19 args S = lendC (evFL T 19) S (lendAll S i19.pes args) := evCall0 fn19 rfl rfl args S
@[simp] theorem callz19 (args : List AV) (S : St) : evCallFz T (evFL T) 19 args S = lendZ (evFL T 19) S i19.res (lendAll S i19.pes args) := evCallFz0 fn19 rfl rfl args S
@[simp] theorem pes19 : i19.pes = [[1]] := rfl
@[simp] theorem body19 : i19.body = c19 := rfl
@[simp] theorem kind19 : i19.kind = 0 := rfl
@[simp] theorem tree19 : i19.tree = false := rfl
@[simp] theorem ntmps19 : i19.ntmps = 22 := rfl
@[simp] theorem results19 : i19.results = [(ResultVar.tmp 2)] := rfl
@[simp] theorem res19 : i19.res = [[1]] := rfl
def I19_0 (a : (List Int))  (i : Nat) (fr : Fr) (S : St) : Prop := ∃ f : Nat → AV, fr = frOf 22 f ∧ f 0 = .ts .imm 1 (a.map encInt) ∧ f 3 = .sl 0 0 a.length ∧ f 4 = .int .i64 i ∧ S = [some ⟨.arr, 1, filled encInt [.int .i64 0] a i⟩] ∧ True
def R19_0 (a : (List Int))  (r : Option (Ex × Fr × St)) : Prop := (∃ f : Nat → AV, r = some (.exit 0, frOf 22 f, [some ⟨.arr, 1, filled encInt [.int .i64 0] a a.length⟩]) ∧ f 3 = .sl 0 0 a.length ∧ True)
theorem L19_0 (a : (List Int)) (ha0 : a.length ≤ 1048576)   : ∀ i fr S, i ≤ a.length → I19_0 a  i fr S → R19_0 a  (evCL T 0 (.loop l19_0) fr S) := by
  refine loopQ _ _ _ ?_ ?_
  · rintro i fr S hi ⟨f, rfl, t0, t3, t4, rfl, hf⟩
    have hm : (a.length : Int) ≤ 4294967296 := by omega
    have hm1 : a.length ≤ 4294967296 := by omega
    have hwi : IntKind.i64.wrap ((i : Int) + 1) = (i : Int) + 1 := wrap64 (by omega) (by omega)
    all_goals simp -implicitDefEqProofs [r19_0, r19_1, r19_2, r19_3, r19_4, r19_5, r19_6, l19_0, ha0, -List.getElem?_map, -getElem?_pos, -Int.pred_toNat, List.getElem?_cons_zero, map_get, -List.map_take, -List.map_drop, take_map, drop_map, upd_ne, frOf_set, frOf_get, frOf_getD, encInt, hm, hm1, fset19, filled_get, t0, t3, t4, hi, hwi]
    all_goals first | (refine .go _ _ ⟨_, rfl, (by first | rfl | assumption | simp [upd, *]), (by first | rfl | assumption | simp [upd, *]), (by first | rfl | assumption | simp [upd, *]), rfl, ?_⟩; first | trivial | assumption | simp [*]) | (refine .exit _ _ _ ⟨_, rfl, (by first | rfl | assumption | simp [upd, *]), ?_⟩; first | trivial | assumption | simp [*])
  · rintro fr S ⟨f, rfl, t0, t3, t4, rfl, hf⟩
    have hm : (a.length : Int) ≤ 4294967296 := by omega
    have hm1 : a.length ≤ 4294967296 := by omega
    simp -implicitDefEqProofs [r19_0, r19_1, r19_2, r19_3, r19_4, r19_5, r19_6, l19_0, ha0, -List.getElem?_map, -getElem?_pos, -Int.pred_toNat, List.getElem?_cons_zero, map_get, -List.map_take, -List.map_drop, take_map, drop_map, upd_ne, frOf_set, frOf_get, frOf_getD, encInt, hm, hm1, fset19, filled_get, t0, t3, t4]
    refine .exit _ _ _ ⟨_, rfl, (by first | rfl | assumption | simp [upd, *]), ?_⟩
    first | trivial | assumption | simp [*]
theorem e19 (a : (List Int)) (ha0 : a.length ≤ 1048576) : evFL T 19 [.ts .imm 1 (a.map encInt)] [] = some (.sl 0 0 a.length, [some ⟨.arr, 1, a.map encInt⟩]) := by
  rw [evFL_at fn19 (by simp)]
  have hm : (a.length : Int) ≤ 4294967296 := by omega
  have hm1 : a.length ≤ 4294967296 := by omega
  simp -implicitDefEqProofs [c19, r19_0, r19_1, r19_2, r19_3, r19_4, r19_5, r19_6, ha0, -List.getElem?_map, -getElem?_pos, -Int.pred_toNat, List.getElem?_cons_zero, map_get, -List.map_take, -List.map_drop, take_map, drop_map, upd_ne, frOf_set, frOf_get, frOf_getD, encInt, hm, hm1]
  generalize hr : evCL T 0 (.loop l19_0) _ _ = r
  have h : R19_0 a  r := by rw [← hr]; exact L19_0 a ha0  (0) _ _ (by omega) ⟨_, rfl, (by simp [upd, *]), (by simp [upd, *]), (by simp [upd, *]), by simp [← filled_zero], by first | trivial | assumption | simp⟩
  clear hr
  obtain ⟨f0, rfl, u0_3, hf0⟩ := h
  simp -implicitDefEqProofs [r19_0, r19_1, r19_2, r19_3, r19_4, r19_5, r19_6, ha0, -List.getElem?_map, -getElem?_pos, -Int.pred_toNat, List.getElem?_cons_zero, map_get, -List.map_take, -List.map_drop, take_map, drop_map, upd_ne, frOf_set, frOf_get, frOf_getD, encInt, hm, hm1, u0_3, hf0, filled_end]
theorem fset88 {a : (List (List Int))} {i : Nat} (h : i < a.length) : (filled (encLInt .own) [.ts .own 1 []] a i).set i [.ts .own 1 ((nth a i).map encInt)] = filled (encLInt .own) [.ts .own 1 []] a (i + 1) := filled_set h
-- laws.toIntSS
@[simp] theorem call88 {m : Nat} (args : List AV) (S : St) : evCall T m (evFL T) 88 args S = lendC (evFL T 88) S (lendAll S i88.pes args) := evCall0 fn88 rfl rfl args S
@[simp] theorem callz88 (args : List AV) (S : St) : evCallFz T (evFL T) 88 args S = lendZ (evFL T 88) S i88.res (lendAll S i88.pes args) := evCallFz0 fn88 rfl rfl args S
@[simp] theorem pes88 : i88.pes = [[1]] := rfl
@[simp] theorem body88 : i88.body = c88 := rfl
@[simp] theorem kind88 : i88.kind = 0 := rfl
@[simp] theorem tree88 : i88.tree = false := rfl
@[simp] theorem ntmps88 : i88.ntmps = 23 := rfl
@[simp] theorem results88 : i88.results = [(ResultVar.tmp 2)] := rfl
@[simp] theorem res88 : i88.res = [[1]] := rfl
def I88_0 (a : (List (List Int)))  (i : Nat) (fr : Fr) (S : St) : Prop := ∃ f : Nat → AV, ∃ G : St, fr = frOf 23 f ∧ f 0 = .ts .imm 1 (a.map (encLInt .imm)) ∧ f 3 = .sl 0 0 a.length ∧ f 4 = .int .i64 i ∧ S = some ⟨.arr, 1, filled (encLInt .own) [.ts .own 1 []] a i⟩ :: G ∧ True
def R88_0 (a : (List (List Int)))  (r : Option (Ex × Fr × St)) : Prop := (∃ f : Nat → AV, ∃ G : St, r = some (.exit 0, frOf 23 f, some ⟨.arr, 1, filled (encLInt .own) [.ts .own 1 []] a a.length⟩ :: G) ∧ f 3 = .sl 0 0 a.length ∧ True)
theorem L88_0 (a : (List (List Int))) (ha0 : a.length ≤ 1048576) (ha1 : smsLInt a)   : ∀ i fr S, i ≤ a.length → I88_0 a  i fr S → R88_0 a  (evCL T 0 (.loop l88_0) fr S) := by
  refine loopQ _ _ _ ?_ ?_
  · rintro i fr S hi ⟨f, G, rfl, t0, t3, t4, rfl, hf⟩
    have hm : (a.length : Int) ≤ 4294967296 := by omega
    have hm1 : a.length ≤ 4294967296 := by omega
    have hwi : IntKind.i64.wrap ((i : Int) + 1) = (i : Int) + 1 := wrap64 (by omega) (by omega)
    have hy := ha1 (nth a i) (nth_mem hi)
    simp only [smLInt] at hy
    have ef := e19 ((nth a i)) hy
    all_goals simp -implicitDefEqProofs [r88_0, r88_1, r88_2, r88_3, r88_4, r88_5, r88_6, l88_0, ha0, ha1, call19, callz19, e19, -List.getElem?_map, -getElem?_pos, -Int.pred_toNat, List.getElem?_cons_zero, map_get, -List.map_take, -List.map_drop, take_map, drop_map, upd_ne, frOf_set, frOf_get, frOf_getD, encLInt, hm, hm1, fset88, filled_get, t0, t3, t4, hi, hwi, hy, ef]
    all_goals first | (refine .go _ _ ⟨_, _, rfl, (by first | rfl | assumption | simp [upd, *]), (by first | rfl | assumption | simp [upd, *]), (by first | rfl | assumption | simp [upd, *]), rfl, ?_⟩; first | trivial | assumption | simp [*]) | (refine .exit _ _ _ ⟨_, _, rfl, (by first | rfl | assumption | simp [upd, *]), ?_⟩; first | trivial | assumption | simp [*])
  · rintro fr S ⟨f, G, rfl, t0, t3, t4, rfl, hf⟩
    have hm : (a.length : Int) ≤ 4294967296 := by omega
    have hm1 : a.length ≤ 4294967296 := by omega
    simp -implicitDefEqProofs [r88_0, r88_1, r88_2, r88_3, r88_4, r88_5, r88_6, l88_0, ha0, ha1, call19, callz19, e19, -List.getElem?_map, -getElem?_pos, -Int.pred_toNat, List.getElem?_cons_zero, map_get, -List.map_take, -List.map_drop, take_map, drop_map, upd_ne, frOf_set, frOf_get, frOf_getD, encLInt, hm, hm1, fset88, filled_get, t0, t3, t4]
    refine .exit _ _ _ ⟨_, _, rfl, (by first | rfl | assumption | simp [upd, *]), ?_⟩
    first | trivial | assumption | simp [*]
theorem e88 (a : (List (List Int))) (ha0 : a.length ≤ 1048576) (ha1 : smsLInt a) : evFL T 88 [.ts .imm 1 (a.map (encLInt .imm))] [] = some (.sl 0 0 a.length, [some ⟨.arr, 1, a.map (encLInt .own)⟩]) := by
  rw [evFL_at fn88 (by simp)]
  have hm : (a.length : Int) ≤ 4294967296 := by omega
  have hm1 : a.length ≤ 4294967296 := by omega
  simp -implicitDefEqProofs [c88, r88_0, r88_1, r88_2, r88_3, r88_4, r88_5, r88_6, ha0, ha1, call19, callz19, e19, -List.getElem?_map, -getElem?_pos, -Int.pred_toNat, List.getElem?_cons_zero, map_get, -List.map_take, -List.map_drop, take_map, drop_map, upd_ne, frOf_set, frOf_get, frOf_getD, encLInt, hm, hm1]
  generalize hr : evCL T 0 (.loop l88_0) _ _ = r
  have h : R88_0 a  r := by rw [← hr]; exact L88_0 a ha0 ha1  (0) _ _ (by omega) ⟨_, _, rfl, (by simp [upd, *]), (by simp [upd, *]), (by simp [upd, *]), by simp [← filled_zero]; rfl, by first | trivial | assumption | simp⟩
  clear hr
  obtain ⟨f0, G, rfl, u0_3, hf0⟩ := h
  simp -implicitDefEqProofs [r88_0, r88_1, r88_2, r88_3, r88_4, r88_5, r88_6, ha0, ha1, call19, callz19, e19, -List.getElem?_map, -getElem?_pos, -Int.pred_toNat, List.getElem?_cons_zero, map_get, -List.map_take, -List.map_drop, take_map, drop_map, upd_ne, frOf_set, frOf_get, frOf_getD, encLInt, hm, hm1, u0_3, hf0, filled_end]
theorem fset50 {a : (List (List (List Int)))} {i : Nat} (h : i < a.length) : (filled (encLLInt .own) [.ts .own 1 []] a i).set i [.ts .own 1 ((nth a i).map (encLInt .own))] = filled (encLLInt .own) [.ts .own 1 []] a (i + 1) := filled_set h
-- laws.toIntSSS
@[simp] theorem call50 {m : Nat} (args : List AV) (S : St) : evCall T m (evFL T) 50 args S = lendC (evFL T 50) S (lendAll S i50.pes args) := evCall0 fn50 rfl rfl args S
@[simp] theorem callz50 (args : List AV) (S : St) : evCallFz T (evFL T) 50 args S = lendZ (evFL T 50) S i50.res (lendAll S i50.pes args) := evCallFz0 fn50 rfl rfl args S
@[simp] theorem pes50 : i50.pes = [[1]] := rfl
@[simp] theorem body50 : i50.body = c50 := rfl
@[simp] theorem kind50 : i50.kind = 0 := rfl
@[simp] theorem tree50 : i50.tree = false := rfl
@[simp] theorem ntmps50 : i50.ntmps = 23 := rfl
@[simp] theorem results50 : i50.results = [(ResultVar.tmp 2)] := rfl
@[simp] theorem res50 : i50.res = [[1]] := rfl
def I50_0 (a : (List (List (List Int))))  (i : Nat) (fr : Fr) (S : St) : Prop := ∃ f : Nat → AV, ∃ G : St, fr = frOf 23 f ∧ f 0 = .ts .imm 1 (a.map (encLLInt .imm)) ∧ f 3 = .sl 0 0 a.length ∧ f 4 = .int .i64 i ∧ S = some ⟨.arr, 1, filled (encLLInt .own) [.ts .own 1 []] a i⟩ :: G ∧ True
def R50_0 (a : (List (List (List Int))))  (r : Option (Ex × Fr × St)) : Prop := (∃ f : Nat → AV, ∃ G : St, r = some (.exit 0, frOf 23 f, some ⟨.arr, 1, filled (encLLInt .own) [.ts .own 1 []] a a.length⟩ :: G) ∧ f 3 = .sl 0 0 a.length ∧ True)
theorem L50_0 (a : (List (List (List Int)))) (ha0 : a.length ≤ 1048576) (ha1 : smsLLInt a)   : ∀ i fr S, i ≤ a.length → I50_0 a  i fr S → R50_0 a  (evCL T 0 (.loop l50_0) fr S) := by
  refine loopQ _ _ _ ?_ ?_
  · rintro i fr S hi ⟨f, G, rfl, t0, t3, t4, rfl, hf⟩
    have hm : (a.length : Int) ≤ 4294967296 := by omega
    have hm1 : a.length ≤ 4294967296 := by omega
    have hwi : IntKind.i64.wrap ((i : Int) + 1) = (i : Int) + 1 := wrap64 (by omega) (by omega)
    have hy := ha1 (nth a i) (nth_mem hi)
    simp only [smLLInt] at hy
    obtain ⟨hy0, hy1⟩ := hy
    have ef := e88 ((nth a i)) hy0 hy1
    all_goals simp -implicitDefEqProofs [r50_0, r50_1, r50_2, r50_3, r50_4, r50_5, r50_6, l50_0, ha0, ha1, call88, callz88, e88, -List.getElem?_map, -getElem?_pos, -Int.pred_toNat, List.getElem?_cons_zero, map_get, -List.map_take, -List.map_drop, take_map, drop_map, upd_ne, frOf_set, frOf_get, frOf_getD, encLLInt, hm, hm1, fset50, filled_get, t0, t3, t4, hi, hwi, hy0, hy1, ef]
    all_goals first | (refine .go _ _ ⟨_, _, rfl, (by first | rfl | assumption | simp [upd, *]), (by first | rfl | assumption | simp [upd, *]), (by first | rfl | assumption | simp [upd, *]), rfl, ?_⟩; first | trivial | assumption | simp [*]) | (refine .exit _ _ _ ⟨_, _, rfl, (by first | rfl | assumption | simp [upd, *]), ?_⟩; first | trivial | assumption | simp [*])
  · rintro fr S ⟨f, G, rfl, t0, t3, t4, rfl, hf⟩
    have hm : (a.length : Int) ≤ 4294967296 := by omega
    have hm1 : a.length ≤ 4294967296 := by omega
    simp -implicitDefEqProofs [r50_0, r50_1, r50_2, r50_3, r50_4, r50_5, r50_6, l50_0, ha0, ha1, call88, callz88, e88, -List.getElem?_map, -getElem?_pos, -Int.pred_toNat, List.getElem?_cons_zero, map_get, -List.map_take, -List.map_drop, take_map, drop_map, upd_ne, frOf_set, frOf_get, frOf_getD, encLLInt, hm, hm1, fset50, filled_get, t0, t3, t4]
    refine .exit _ _ _ ⟨_, _, rfl, (by first | rfl | assumption | simp [upd, *]), ?_⟩
    first | trivial | assumption | simp [*]
theorem e50 (a : (List (List (List Int)))) (ha0 : a.length ≤ 1048576) (ha1 : smsLLInt a) : evFL T 50 [.ts .imm 1 (a.map (encLLInt .imm))] [] = some (.sl 0 0 a.length, [some ⟨.arr, 1, a.map (encLLInt .own)⟩]) := by
  rw [evFL_at fn50 (by simp)]
  have hm : (a.length : Int) ≤ 4294967296 := by omega
  have hm1 : a.length ≤ 4294967296 := by omega
  simp -implicitDefEqProofs [c50, r50_0, r50_1, r50_2, r50_3, r50_4, r50_5, r50_6, ha0, ha1, call88, callz88, e88, -List.getElem?_map, -getElem?_pos, -Int.pred_toNat, List.getElem?_cons_zero, map_get, -List.map_take, -List.map_drop, take_map, drop_map, upd_ne, frOf_set, frOf_get, frOf_getD, encLLInt, hm, hm1]
  generalize hr : evCL T 0 (.loop l50_0) _ _ = r
  have h : R50_0 a  r := by rw [← hr]; exact L50_0 a ha0 ha1  (0) _ _ (by omega) ⟨_, _, rfl, (by simp [upd, *]), (by simp [upd, *]), (by simp [upd, *]), by simp [← filled_zero]; rfl, by first | trivial | assumption | simp⟩
  clear hr
  obtain ⟨f0, G, rfl, u0_3, hf0⟩ := h
  simp -implicitDefEqProofs [r50_0, r50_1, r50_2, r50_3, r50_4, r50_5, r50_6, ha0, ha1, call88, callz88, e88, -List.getElem?_map, -getElem?_pos, -Int.pred_toNat, List.getElem?_cons_zero, map_get, -List.map_take, -List.map_drop, take_map, drop_map, upd_ne, frOf_set, frOf_get, frOf_getD, encLLInt, hm, hm1, u0_3, hf0, filled_end]
-- laws.toSpp
@[simp] theorem call15 {m : Nat} (args : List AV) (S : St) : evCall T m (evFL T) 15 args S = lendC (evFL T 15) S (lendAll S i15.pes args) := evCall0 fn15 rfl rfl args S
@[simp] theorem callz15 (args : List AV) (S : St) : evCallFz T (evFL T) 15 args S = lendZ (evFL T 15) S i15.res (lendAll S i15.pes args) := evCallFz0 fn15 rfl rfl args S
@[simp] theorem pes15 : i15.pes = [[1]] := rfl
@[simp] theorem body15 : i15.body = c15 := rfl
@[simp] theorem kind15 : i15.kind = 0 := rfl
@[simp] theorem tree15 : i15.tree = false := rfl
@[simp] theorem ntmps15 : i15.ntmps = 9 := rfl
@[simp] theorem results15 : i15.results = [(ResultVar.cell 2 27)] := rfl
@[simp] theorem res15 : i15.res = [[1]] := rfl
theorem e15 (a_ranked : (List (List (List Int)))) (ha0 : a_ranked.length ≤ 1048576) (ha1 : smsLLInt a_ranked) : evFL T 15 [.agg [.ts .imm 1 (a_ranked.map (encLLInt .imm))]] [] = some (.agg [.sl 0 0 a_ranked.length], [some ⟨.arr, 1, a_ranked.map (encLLInt .own)⟩]) := by
  rw [evFL_at fn15 (by simp)]
  have ef0 := e50 a_ranked ha0 ha1
  all_goals simp -implicitDefEqProofs [c15, r15_0, r15_1, r15_2, r15_3, ha0, ha1, call50, callz50, e50, -List.getElem?_map, -getElem?_pos, -Int.pred_toNat, List.getElem?_cons_zero, map_get, -List.map_take, -List.map_drop, take_map, drop_map, upd_ne, frOf_set, frOf_get, frOf_getD, ef0]
-- laws.eqIntS
@[simp] theorem call21 {m : Nat} (args : List AV) (S : St) : evCall T m (evFL T) 21 args S = lendC (evFL T 21) S (lendAll S i21.pes args) := evCall0 fn21 rfl rfl args S
@[simp] theorem callz21 (args : List AV) (S : St) : evCallFz T (evFL T) 21 args S = lendZ (evFL T 21) S i21.res (lendAll S i21.pes args) := evCallFz0 fn21 rfl rfl args S
@[simp] theorem pes21 : i21.pes = [[1], [1]] := rfl
@[simp] theorem body21 : i21.body = c21 := rfl
@[simp] theorem kind21 : i21.kind = 0 := rfl
@[simp] theorem tree21 : i21.tree = false := rfl
@[simp] theorem ntmps21 : i21.ntmps = 26 := rfl
@[simp] theorem results21 : i21.results = [(ResultVar.tmp 4)] := rfl
@[simp] theorem res21 : i21.res = [[0]] := rfl
def I21_0 (a : (List Int))  (i : Nat) (fr : Fr) (S : St) : Prop := ∃ f : Nat → AV, fr = frOf 26 f ∧ f 0 = .ts .imm 1 (a.map encInt) ∧ f 1 = .ts .imm 1 (a.map encInt) ∧ f 5 = .int .i64 i ∧ S = [] ∧ True
def R21_0 (a : (List Int))  (r : Option (Ex × Fr × St)) : Prop := (∃ f : Nat → AV, r = some (.exit 0, frOf 26 f, []) ∧ True)
theorem L21_0 (a : (List Int)) (ha0 : a.length ≤ 1048576)   : ∀ i fr S, i ≤ a.length → I21_0 a  i fr S → R21_0 a  (evCL T 0 (.loop l21_0) fr S) := by
  refine loopQ _ _ _ ?_ ?_
  · rintro i fr S hi ⟨f, rfl, t0, t1, t5, rfl, hf⟩
    have hwi : IntKind.i64.wrap ((i : Int) + 1) = (i : Int) + 1 := wrap64 (by omega) (by omega)
    all_goals simp -implicitDefEqProofs [r21_0, r21_1, r21_2, r21_3, r21_4, r21_5, r21_6, r21_7, r21_8, l21_0, ha0, -List.getElem?_map, -getElem?_pos, -Int.pred_toNat, List.getElem?_cons_zero, map_get, -List.map_take, -List.map_drop, take_map, drop_map, upd_ne, frOf_set, frOf_get, frOf_getD, encInt, t0, t1, t5, hi, hwi]
    all_goals first | (refine .go _ _ ⟨_, rfl, (by first | rfl | assumption | simp [upd, *]), (by first | rfl | assumption | simp [upd, *]), (by first | rfl | assumption | simp [upd, *]), rfl, ?_⟩; first | trivial | assumption | simp [*]) | (refine .exit _ _ _ ⟨_, rfl, ?_⟩; first | trivial | assumption | simp [*])
  · rintro fr S ⟨f, rfl, t0, t1, t5, rfl, hf⟩
    simp -implicitDefEqProofs [r21_0, r21_1, r21_2, r21_3, r21_4, r21_5, r21_6, r21_7, r21_8, l21_0, ha0, -List.getElem?_map, -getElem?_pos, -Int.pred_toNat, List.getElem?_cons_zero, map_get, -List.map_take, -List.map_drop, take_map, drop_map, upd_ne, frOf_set, frOf_get, frOf_getD, encInt, t0, t1, t5]
    refine .exit _ _ _ ⟨_, rfl, ?_⟩
    first | trivial | assumption | simp [*]
theorem e21 (a : (List Int)) (ha0 : a.length ≤ 1048576) : evFL T 21 [.ts .imm 1 (a.map encInt), .ts .imm 1 (a.map encInt)] [] = some (.bool true, []) := by
  rw [evFL_at fn21 (by simp)]
  simp -implicitDefEqProofs [c21, r21_0, r21_1, r21_2, r21_3, r21_4, r21_5, r21_6, r21_7, r21_8, ha0, -List.getElem?_map, -getElem?_pos, -Int.pred_toNat, List.getElem?_cons_zero, map_get, -List.map_take, -List.map_drop, take_map, drop_map, upd_ne, frOf_set, frOf_get, frOf_getD, encInt]
  generalize hr : evCL T 0 (.loop l21_0) _ _ = r
  have h : R21_0 a  r := by rw [← hr]; exact L21_0 a ha0  (0) _ _ (by omega) ⟨_, rfl, (by simp [upd, *]), (by simp [upd, *]), (by simp [upd, *]), rfl, by first | trivial | assumption | simp⟩
  clear hr
  obtain ⟨f0, rfl, hf0⟩ := h
  simp -implicitDefEqProofs [r21_0, r21_1, r21_2, r21_3, r21_4, r21_5, r21_6, r21_7, r21_8, ha0, -List.getElem?_map, -getElem?_pos, -Int.pred_toNat, List.getElem?_cons_zero, map_get, -List.map_take, -List.map_drop, take_map, drop_map, upd_ne, frOf_set, frOf_get, frOf_getD, encInt, hf0] <;> try omega
-- laws.eqIntSS
@[simp] theorem call33 {m : Nat} (args : List AV) (S : St) : evCall T m (evFL T) 33 args S = lendC (evFL T 33) S (lendAll S i33.pes args) := evCall0 fn33 rfl rfl args S
@[simp] theorem callz33 (args : List AV) (S : St) : evCallFz T (evFL T) 33 args S = lendZ (evFL T 33) S i33.res (lendAll S i33.pes args) := evCallFz0 fn33 rfl rfl args S
@[simp] theorem pes33 : i33.pes = [[1], [1]] := rfl
@[simp] theorem body33 : i33.body = c33 := rfl
@[simp] theorem kind33 : i33.kind = 0 := rfl
@[simp] theorem tree33 : i33.tree = false := rfl
@[simp] theorem ntmps33 : i33.ntmps = 27 := rfl
@[simp] theorem results33 : i33.results = [(ResultVar.tmp 4)] := rfl
@[simp] theorem res33 : i33.res = [[0]] := rfl
def I33_0 (a : (List (List Int)))  (i : Nat) (fr : Fr) (S : St) : Prop := ∃ f : Nat → AV, fr = frOf 27 f ∧ f 0 = .ts .imm 1 (a.map (encLInt .imm)) ∧ f 1 = .ts .imm 1 (a.map (encLInt .imm)) ∧ f 5 = .int .i64 i ∧ S = [] ∧ True
def R33_0 (a : (List (List Int)))  (r : Option (Ex × Fr × St)) : Prop := (∃ f : Nat → AV, r = some (.exit 0, frOf 27 f, []) ∧ True)
theorem L33_0 (a : (List (List Int))) (ha0 : a.length ≤ 1048576) (ha1 : smsLInt a)   : ∀ i fr S, i ≤ a.length → I33_0 a  i fr S → R33_0 a  (evCL T 0 (.loop l33_0) fr S) := by
  refine loopQ _ _ _ ?_ ?_
  · rintro i fr S hi ⟨f, rfl, t0, t1, t5, rfl, hf⟩
    have hwi : IntKind.i64.wrap ((i : Int) + 1) = (i : Int) + 1 := wrap64 (by omega) (by omega)
    have hy := ha1 (nth a i) (nth_mem hi)
    simp only [smLInt] at hy
    have ef := e21 ((nth a i)) hy
    all_goals simp -implicitDefEqProofs [r33_0, r33_1, r33_2, r33_3, r33_4, r33_5, r33_6, r33_7, r33_8, l33_0, ha0, ha1, call21, callz21, e21, -List.getElem?_map, -getElem?_pos, -Int.pred_toNat, List.getElem?_cons_zero, map_get, -List.map_take, -List.map_drop, take_map, drop_map, upd_ne, frOf_set, frOf_get, frOf_getD, encLInt, t0, t1, t5, hi, hwi, hy, ef]
    all_goals first | (refine .go _ _ ⟨_, rfl, (by first | rfl | assumption | simp [upd, *]), (by first | rfl | assumption | simp [upd, *]), (by first | rfl | assumption | simp [upd, *]), rfl, ?_⟩; first | trivial | assumption | simp [*]) | (refine .exit _ _ _ ⟨_, rfl, ?_⟩; first | trivial | assumption | simp [*])
  · rintro fr S ⟨f, rfl, t0, t1, t5, rfl, hf⟩
    simp -implicitDefEqProofs [r33_0, r33_1, r33_2, r33_3, r33_4, r33_5, r33_6, r33_7, r33_8, l33_0, ha0, ha1, call21, callz21, e21, -List.getElem?_map, -getElem?_pos, -Int.pred_toNat, List.getElem?_cons_zero, map_get, -List.map_take, -List.map_drop, take_map, drop_map, upd_ne, frOf_set, frOf_get, frOf_getD, encLInt, t0, t1, t5]
    refine .exit _ _ _ ⟨_, rfl, ?_⟩
    first | trivial | assumption | simp [*]
theorem e33 (a : (List (List Int))) (ha0 : a.length ≤ 1048576) (ha1 : smsLInt a) : evFL T 33 [.ts .imm 1 (a.map (encLInt .imm)), .ts .imm 1 (a.map (encLInt .imm))] [] = some (.bool true, []) := by
  rw [evFL_at fn33 (by simp)]
  simp -implicitDefEqProofs [c33, r33_0, r33_1, r33_2, r33_3, r33_4, r33_5, r33_6, r33_7, r33_8, ha0, ha1, call21, callz21, e21, -List.getElem?_map, -getElem?_pos, -Int.pred_toNat, List.getElem?_cons_zero, map_get, -List.map_take, -List.map_drop, take_map, drop_map, upd_ne, frOf_set, frOf_get, frOf_getD, encLInt]
  generalize hr : evCL T 0 (.loop l33_0) _ _ = r
  have h : R33_0 a  r := by rw [← hr]; exact L33_0 a ha0 ha1  (0) _ _ (by omega) ⟨_, rfl, (by simp [upd, *]), (by simp [upd, *]), (by simp [upd, *]), rfl, by first | trivial | assumption | simp⟩
  clear hr
  obtain ⟨f0, rfl, hf0⟩ := h
  simp -implicitDefEqProofs [r33_0, r33_1, r33_2, r33_3, r33_4, r33_5, r33_6, r33_7, r33_8, ha0, ha1, call21, callz21, e21, -List.getElem?_map, -getElem?_pos, -Int.pred_toNat, List.getElem?_cons_zero, map_get, -List.map_take, -List.map_drop, take_map, drop_map, upd_ne, frOf_set, frOf_get, frOf_getD, encLInt, hf0] <;> try omega
-- laws.eqIntSSS
@[simp] theorem call56 {m : Nat} (args : List AV) (S : St) : evCall T m (evFL T) 56 args S = lendC (evFL T 56) S (lendAll S i56.pes args) := evCall0 fn56 rfl rfl args S
@[simp] theorem callz56 (args : List AV) (S : St) : evCallFz T (evFL T) 56 args S = lendZ (evFL T 56) S i56.res (lendAll S i56.pes args) := evCallFz0 fn56 rfl rfl args S
@[simp] theorem pes56 : i56.pes = [[1], [1]] := rfl
@[simp] theorem body56 : i56.body = c56 := rfl
@[simp] theorem kind56 : i56.kind = 0 := rfl
@[simp] theorem tree56 : i56.tree = false := rfl
@[simp] theorem ntmps56 : i56.ntmps = 27 := rfl
@[simp] theorem results56 : i56.results = [(ResultVar.tmp 4)] := rfl
@[simp] theorem res56 : i56.res = [[0]] := rfl
def I56_0 (a : (List (List (List Int))))  (i : Nat) (fr : Fr) (S : St) : Prop := ∃ f : Nat → AV, fr = frOf 27 f ∧ f 0 = .ts .imm 1 (a.map (encLLInt .imm)) ∧ f 1 = .ts .imm 1 (a.map (encLLInt .imm)) ∧ f 5 = .int .i64 i ∧ S = [] ∧ True
def R56_0 (a : (List (List (List Int))))  (r : Option (Ex × Fr × St)) : Prop := (∃ f : Nat → AV, r = some (.exit 0, frOf 27 f, []) ∧ True)
theorem L56_0 (a : (List (List (List Int)))) (ha0 : a.length ≤ 1048576) (ha1 : smsLLInt a)   : ∀ i fr S, i ≤ a.length → I56_0 a  i fr S → R56_0 a  (evCL T 0 (.loop l56_0) fr S) := by
  refine loopQ _ _ _ ?_ ?_
  · rintro i fr S hi ⟨f, rfl, t0, t1, t5, rfl, hf⟩
    have hwi : IntKind.i64.wrap ((i : Int) + 1) = (i : Int) + 1 := wrap64 (by omega) (by omega)
    have hy := ha1 (nth a i) (nth_mem hi)
    simp only [smLLInt] at hy
    obtain ⟨hy0, hy1⟩ := hy
    have ef := e33 ((nth a i)) hy0 hy1
    all_goals simp -implicitDefEqProofs [r56_0, r56_1, r56_2, r56_3, r56_4, r56_5, r56_6, r56_7, r56_8, l56_0, ha0, ha1, call33, callz33, e33, -List.getElem?_map, -getElem?_pos, -Int.pred_toNat, List.getElem?_cons_zero, map_get, -List.map_take, -List.map_drop, take_map, drop_map, upd_ne, frOf_set, frOf_get, frOf_getD, encLLInt, t0, t1, t5, hi, hwi, hy0, hy1, ef]
    all_goals first | (refine .go _ _ ⟨_, rfl, (by first | rfl | assumption | simp [upd, *]), (by first | rfl | assumption | simp [upd, *]), (by first | rfl | assumption | simp [upd, *]), rfl, ?_⟩; first | trivial | assumption | simp [*]) | (refine .exit _ _ _ ⟨_, rfl, ?_⟩; first | trivial | assumption | simp [*])
  · rintro fr S ⟨f, rfl, t0, t1, t5, rfl, hf⟩
    simp -implicitDefEqProofs [r56_0, r56_1, r56_2, r56_3, r56_4, r56_5, r56_6, r56_7, r56_8, l56_0, ha0, ha1, call33, callz33, e33, -List.getElem?_map, -getElem?_pos, -Int.pred_toNat, List.getElem?_cons_zero, map_get, -List.map_take, -List.map_drop, take_map, drop_map, upd_ne, frOf_set, frOf_get, frOf_getD, encLLInt, t0, t1, t5]
    refine .exit _ _ _ ⟨_, rfl, ?_⟩
    first | trivial | assumption | simp [*]
theorem e56 (a : (List (List (List Int)))) (ha0 : a.length ≤ 1048576) (ha1 : smsLLInt a) : evFL T 56 [.ts .imm 1 (a.map (encLLInt .imm)), .ts .imm 1 (a.map (encLLInt .imm))] [] = some (.bool true, []) := by
  rw [evFL_at fn56 (by simp)]
  simp -implicitDefEqProofs [c56, r56_0, r56_1, r56_2, r56_3, r56_4, r56_5, r56_6, r56_7, r56_8, ha0, ha1, call33, callz33, e33, -List.getElem?_map, -getElem?_pos, -Int.pred_toNat, List.getElem?_cons_zero, map_get, -List.map_take, -List.map_drop, take_map, drop_map, upd_ne, frOf_set, frOf_get, frOf_getD, encLLInt]
  generalize hr : evCL T 0 (.loop l56_0) _ _ = r
  have h : R56_0 a  r := by rw [← hr]; exact L56_0 a ha0 ha1  (0) _ _ (by omega) ⟨_, rfl, (by simp [upd, *]), (by simp [upd, *]), (by simp [upd, *]), rfl, by first | trivial | assumption | simp⟩
  clear hr
  obtain ⟨f0, rfl, hf0⟩ := h
  simp -implicitDefEqProofs [r56_0, r56_1, r56_2, r56_3, r56_4, r56_5, r56_6, r56_7, r56_8, ha0, ha1, call33, callz33, e33, -List.getElem?_map, -getElem?_pos, -Int.pred_toNat, List.getElem?_cons_zero, map_get, -List.map_take, -List.map_drop, take_map, drop_map, upd_ne, frOf_set, frOf_get, frOf_getD, encLLInt, hf0] <;> try omega
-- laws.eqSpp
@[simp] theorem call17 {m : Nat} (args : List AV) (S : St) : evCall T m (evFL T) 17 args S = lendC (evFL T 17) S (lendAll S i17.pes args) := evCall0 fn17 rfl rfl args S
@[simp] theorem callz17 (args : List AV) (S : St) : evCallFz T (evFL T) 17 args S = lendZ (evFL T 17) S i17.res (lendAll S i17.pes args) := evCallFz0 fn17 rfl rfl args S
@[simp] theorem pes17 : i17.pes = [[1], [1]] := rfl
@[simp] theorem body17 : i17.body = c17 := rfl
@[simp] theorem kind17 : i17.kind = 0 := rfl
@[simp] theorem tree17 : i17.tree = false := rfl
@[simp] theorem ntmps17 : i17.ntmps = 11 := rfl
@[simp] theorem results17 : i17.results = [(ResultVar.tmp 4)] := rfl
@[simp] theorem res17 : i17.res = [[0]] := rfl
theorem e17 (a_ranked : (List (List (List Int)))) (ha0 : a_ranked.length ≤ 1048576) (ha1 : smsLLInt a_ranked) : evFL T 17 [.agg [.ts .imm 1 (a_ranked.map (encLLInt .imm))], .agg [.ts .imm 1 (a_ranked.map (encLLInt .imm))]] [] = some (.bool true, []) := by
  rw [evFL_at fn17 (by simp)]
  have ef0 := e56 a_ranked ha0 ha1
  all_goals simp -implicitDefEqProofs [c17, r17_0, r17_1, r17_2, r17_3, ha0, ha1, call56, callz56, e56, -List.getElem?_map, -getElem?_pos, -Int.pred_toNat, List.getElem?_cons_zero, map_get, -List.map_take, -List.map_drop, take_map, drop_map, upd_ne, frOf_set, frOf_get, frOf_getD, ef0]
-- spec.l1In
@[simp] theorem call47 {m : Nat} (args : List AV) (S : St) : evCall T m (evFL T) 47 args S = lendC (evFL T 47) S (lendAll S i47.pes args) := evCall0 fn47 rfl rfl args S
@[simp] theorem callz47 (args : List AV) (S : St) : evCallFz T (evFL T) 47 args S = lendZ (evFL T 47) S i47.res (lendAll S i47.pes args) := evCallFz0 fn47 rfl rfl args S
@[simp] theorem pes47 : i47.pes = [[0], [0], [0]] := rfl
@[simp] theorem body47 : i47.body = c47 := rfl
@[simp] theorem kind47 : i47.kind = 0 := rfl
@[simp] theorem tree47 : i47.tree = false := rfl
@[simp] theorem ntmps47 : i47.ntmps = 15 := rfl
@[simp] theorem results47 : i47.results = [(ResultVar.tmp 6)] := rfl
@[simp] theorem res47 : i47.res = [[0]] := rfl
theorem e47 (a : Int) (b : Int) (c : Int)  : evFL T 47 [.int .i64 a, .int .i64 b, .int .i64 c] [] = some (.bool (inR a b c), []) := by
  rw [evFL_at fn47 (by simp)]
  by_cases hc0 : b ≤ a
  all_goals simp -implicitDefEqProofs [c47, r47_0, r47_1, -List.getElem?_map, -getElem?_pos, -Int.pred_toNat, List.getElem?_cons_zero, map_get, -List.map_take, -List.map_drop, take_map, drop_map, upd_ne, frOf_set, frOf_get, frOf_getD, inR, hc0]
theorem same_all {a b : List Int} (hl : a.length = b.length) (h : ∀ j, j < a.length → nth a j = nth b j) : a = b := by
  apply List.ext_getElem hl
  intro i h1 h2
  rw [← nth_eq h1, ← nth_eq h2]; exact h i h1
theorem same_no {a b : List Int} {i : Nat} (h : nth a i ≠ nth b i) : a ≠ b := fun e => h (by rw [e])
-- spec.l10Same
@[simp] theorem call79 {m : Nat} (args : List AV) (S : St) : evCall T m (evFL T) 79 args S = lendC (evFL T 79) S (lendAll S i79.pes args) := evCall0 fn79 rfl rfl args S
@[simp] theorem callz79 (args : List AV) (S : St) : evCallFz T (evFL T) 79 args S = lendZ (evFL T 79) S i79.res (lendAll S i79.pes args) := evCallFz0 fn79 rfl rfl args S
@[simp] theorem pes79 : i79.pes = [[1], [1]] := rfl
@[simp] theorem body79 : i79.body = c79 := rfl
@[simp] theorem kind79 : i79.kind = 0 := rfl
@[simp] theorem tree79 : i79.tree = false := rfl
@[simp] theorem ntmps79 : i79.ntmps = 26 := rfl
@[simp] theorem results79 : i79.results = [(ResultVar.tmp 4)] := rfl
@[simp] theorem res79 : i79.res = [[0]] := rfl
def I79_0 (a : (List Int)) (b : (List Int))  (i : Nat) (fr : Fr) (S : St) : Prop := ∃ f : Nat → AV, fr = frOf 26 f ∧ f 0 = .ts .imm 1 (a.map encInt) ∧ f 1 = .ts .imm 1 (b.map encInt) ∧ f 12 = .int .i64 a.length ∧ f 13 = .int .i64 i ∧ S = [] ∧ ∀ j, j < i → nth a j = nth b j
def R79_0 (a : (List Int)) (b : (List Int))  (r : Option (Ex × Fr × St)) : Prop := (∃ f : Nat → AV, r = some (.ret, frOf 26 f, []) ∧ f 4 = .bool false ∧ decide (a = b) = false) ∨ (∃ f : Nat → AV, r = some (.exit 0, frOf 26 f, []) ∧ decide (a = b) = true)
theorem L79_0 (a : (List Int)) (b : (List Int)) (h0 : a.length ≤ 1048576) (h1 : b.length ≤ 1048576)  (hl0 : a.length = b.length) : ∀ i fr S, i ≤ a.length → I79_0 a b  i fr S → R79_0 a b  (evCL T 0 (.loop l79_0) fr S) := by
  refine loopQ _ _ _ ?_ ?_
  · rintro i fr S hi ⟨f, rfl, t0, t1, t12, t13, rfl, hf⟩
    have hwi : IntKind.i64.wrap ((i : Int) + 1) = (i : Int) + 1 := wrap64 (by omega) (by omega)
    have hib : i < b.length := by omega
    by_cases hc : nth a i = nth b i
    · simp -implicitDefEqProofs [r79_0, r79_1, r79_2, r79_3, r79_4, r79_5, r79_6, r79_7, r79_8, r79_9, l79_0, h0, h1, -List.getElem?_map, -getElem?_pos, -Int.pred_toNat, List.getElem?_cons_zero, map_get, -List.map_take, -List.map_drop, take_map, drop_map, upd_ne, frOf_set, frOf_get, frOf_getD, encInt, t0, t1, t12, t13, hi, hwi, hib, hc]
      refine .go _ _ ⟨_, rfl, (by first | rfl | assumption | simp [upd, *]), (by first | rfl | assumption | simp [upd, *]), (by first | rfl | assumption | simp [upd, *]), (by first | rfl | assumption | simp [upd, *]), rfl, ?_⟩; exact fa_succ hf hc
    · simp -implicitDefEqProofs [r79_0, r79_1, r79_2, r79_3, r79_4, r79_5, r79_6, r79_7, r79_8, r79_9, l79_0, h0, h1, -List.getElem?_map, -getElem?_pos, -Int.pred_toNat, List.getElem?_cons_zero, map_get, -List.map_take, -List.map_drop, take_map, drop_map, upd_ne, frOf_set, frOf_get, frOf_getD, encInt, t0, t1, t12, t13, hi, hwi, hib, hc]
      refine .ret _ _ (Or.inl ⟨_, rfl, (by first | rfl | assumption | simp [upd, *]), ?_⟩); exact decide_eq_false (same_no hc)
  · rintro fr S ⟨f, rfl, t0, t1, t12, t13, rfl, hf⟩
    simp -implicitDefEqProofs [r79_0, r79_1, r79_2, r79_3, r79_4, r79_5, r79_6, r79_7, r79_8, r79_9, l79_0, h0, h1, -List.getElem?_map, -getElem?_pos, -Int.pred_toNat, List.getElem?_cons_zero, map_get, -List.map_take, -List.map_drop, take_map, drop_map, upd_ne, frOf_set, frOf_get, frOf_getD, encInt, t0, t1, t12, t13]
    refine .exit _ _ _ (Or.inr ⟨_, rfl, ?_⟩)
    exact decide_eq_true (same_all hl0 hf)
theorem e79 (a : (List Int)) (b : (List Int)) (h0 : a.length ≤ 1048576) (h1 : b.length ≤ 1048576) : evFL T 79 [.ts .imm 1 (a.map encInt), .ts .imm 1 (b.map encInt)] [] = some (.bool (decide (a = b)), []) := by
  rw [evFL_at fn79 (by simp)]
  rcases Nat.lt_or_ge 0 0 with h9 | _
  · omega
  by_cases hl : a.length ≠ b.length
  · have hl2 : ¬ (a.length : Int) = (b.length : Int) := by omega
    have hl3 : a ≠ b := fun e => hl (by rw [e])
    simp -implicitDefEqProofs [c79, r79_0, r79_1, r79_2, r79_3, r79_4, r79_5, r79_6, r79_7, r79_8, r79_9, h0, h1, -List.getElem?_map, -getElem?_pos, -Int.pred_toNat, List.getElem?_cons_zero, map_get, -List.map_take, -List.map_drop, take_map, drop_map, upd_ne, frOf_set, frOf_get, frOf_getD, encInt, hl, hl2, hl3]
  have hl0 : a.length = b.length := by omega
  simp -implicitDefEqProofs [c79, r79_0, r79_1, r79_2, r79_3, r79_4, r79_5, r79_6, r79_7, r79_8, r79_9, h0, h1, -List.getElem?_map, -getElem?_pos, -Int.pred_toNat, List.getElem?_cons_zero, map_get, -List.map_take, -List.map_drop, take_map, drop_map, upd_ne, frOf_set, frOf_get, frOf_getD, encInt, hl0]
  generalize hr : evCL T 0 (.loop l79_0) _ _ = r
  have h : R79_0 a b  r := by rw [← hr]; exact L79_0 a b h0 h1 hl0 (0) _ _ (by omega) ⟨_, rfl, (by simp [upd, *]), (by simp [upd, *]), (by simp [upd, *]), (by simp [upd, *]), rfl, by simp⟩
  clear hr
  rcases h with h | h
  · obtain ⟨f0, rfl, u0_4, hf0⟩ := h
    simp -implicitDefEqProofs [r79_0, r79_1, r79_2, r79_3, r79_4, r79_5, r79_6, r79_7, r79_8, r79_9, h0, h1, -List.getElem?_map, -getElem?_pos, -Int.pred_toNat, List.getElem?_cons_zero, map_get, -List.map_take, -List.map_drop, take_map, drop_map, upd_ne, frOf_set, frOf_get, frOf_getD, encInt, u0_4, hf0] <;> try omega
  obtain ⟨f0, rfl, hf0⟩ := h
  simp -implicitDefEqProofs [r79_0, r79_1, r79_2, r79_3, r79_4, r79_5, r79_6, r79_7, r79_8, r79_9, h0, h1, -List.getElem?_map, -getElem?_pos, -Int.pred_toNat, List.getElem?_cons_zero, map_get, -List.map_take, -List.map_drop, take_map, drop_map, upd_ne, frOf_set, frOf_get, frOf_getD, encInt, hf0] <;> try omega
def hasI (l : List Int) (n : Int) : Bool := l.any fun x => decide (x = n)
theorem hasI_comm (l : List Int) (n : Int) : (l.any fun x => decide (n = x)) = hasI l n := by
  unfold hasI; congr 1; funext x; rw [Bool.eq_iff_iff]; simp [eq_comm]
theorem hasI_iff {l : List Int} {n : Int} : hasI l n = true ↔ n ∈ l := by simp [hasI]
def atI (rows : List (List Int)) (p : List Int) : Int := idxF (fun q => decide (q = p)) rows
def wayP (n : Int) (p : List Int) (i : Nat) : Bool := decide (0 ≤ nth p i ∧ nth p i ≤ n) && !hasI (p.take i) (nth p i) && (!decide (nth p i = 0) || decide (i + 1 = p.length))
def onB (rk : List (List (List Int))) (p : List Int) : Bool := decide (p.length = 2) || (nth rk (nth p 1 - 1).toNat).any fun q => decide (q = p.drop 1)
def isWayB (rk : List (List (List Int))) (node : Int) (p : List Int) : Bool := decide (2 ≤ p.length) && decide (nth p 0 = node) && decide (nth p (p.length - 1) = 0) && allB p.length (wayP (rk.length : Int) p) && onB rk p
def rankP (rk : List (List (List Int))) (k : Nat) (l : List (List Int)) (i : Nat) : Bool := isWayB rk ((k : Int) + 1) (nth l i) && !(l.take i).any fun q => decide (q = nth l i)
def ranksP (rk : List (List (List Int))) (k : Nat) : Bool := decide ((nth rk k).length ≤ 6) && allB (nth rk k).length (rankP rk k (nth rk k))
def sppB (s : Spp) : Bool := inR (s.ranked.length : Int) 1 5 && allB s.ranked.length (ranksP s.ranked)
theorem way_one {n : Int} {p : List Int} (h : allB p.length (wayP n p) = true) (hp : 2 < p.length) : 1 ≤ nth p 1 ∧ nth p 1 ≤ n := by
  have := allB_iff.1 h 1 (by omega)
  simp [wayP] at this
  have h2 : ¬ 1 + 1 = p.length := by omega
  omega
-- spec.l10At
@[simp] theorem call49 {m : Nat} (args : List AV) (S : St) : evCall T m (evFL T) 49 args S = lendC (evFL T 49) S (lendAll S i49.pes args) := evCall0 fn49 rfl rfl args S
@[simp] theorem callz49 (args : List AV) (S : St) : evCallFz T (evFL T) 49 args S = lendZ (evFL T 49) S i49.res (lendAll S i49.pes args) := evCallFz0 fn49 rfl rfl args S
@[simp] theorem pes49 : i49.pes = [[1], [0], [1]] := rfl
@[simp] theorem body49 : i49.body = c49 := rfl
@[simp] theorem kind49 : i49.kind = 0 := rfl
@[simp] theorem tree49 : i49.tree = false := rfl
@[simp] theorem ntmps49 : i49.ntmps = 26 := rfl
@[simp] theorem results49 : i49.results = [(ResultVar.tmp 6)] := rfl
@[simp] theorem res49 : i49.res = [[0]] := rfl
def I49_0 (a_ranked : (List (List (List Int)))) (n : Int) (p : (List Int))  (i : Nat) (fr : Fr) (S : St) : Prop := ∃ f : Nat → AV, fr = frOf 26 f ∧ f 2 = .ts .imm 1 (p.map encInt) ∧ f 14 = .ts .imm 1 ((nth a_ranked (n - 1).toNat).map (encLInt .imm)) ∧ f 15 = .int .i64 (nth a_ranked (n - 1).toNat).length ∧ f 16 = .int .i64 i ∧ S = [some ⟨.box, 1, [[.ts .imm 1 (a_ranked.map (encLLInt .imm))]]⟩] ∧ ∀ j, j < i → decide (nth (nth a_ranked (n - 1).toNat) j = p) = false
def R49_0 (a_ranked : (List (List (List Int)))) (n : Int) (p : (List Int))  (r : Option (Ex × Fr × St)) : Prop := (∃ f : Nat → AV, ∃ j : Int, r = some (.ret, frOf 26 f, [some ⟨.box, 1, [[.ts .imm 1 (a_ranked.map (encLLInt .imm))]]⟩]) ∧ f 6 = .int .i64 j ∧ atI (nth a_ranked (n - 1).toNat) p = j) ∨ (∃ f : Nat → AV, r = some (.exit 0, frOf 26 f, [some ⟨.box, 1, [[.ts .imm 1 (a_ranked.map (encLLInt .imm))]]⟩]) ∧ atI (nth a_ranked (n - 1).toNat) p = -1)
theorem L49_0 (a_ranked : (List (List (List Int)))) (n : Int) (p : (List Int)) (ha0 : a_ranked.length ≤ 1048576) (ha1 : smsLLInt a_ranked) (h1 : 1 ≤ n) (h2 : n ≤ (a_ranked.length : Int)) (h3 : p.length ≤ 1048576)   : ∀ i fr S, i ≤ (nth a_ranked (n - 1).toNat).length → I49_0 a_ranked n p  i fr S → R49_0 a_ranked n p  (evCL T 0 (.loop l49_0) fr S) := by
  refine loopQ _ _ _ ?_ ?_
  · rintro i fr S hi ⟨f, rfl, t2, t14, t15, t16, rfl, hf⟩
    have hk : (n - 1).toNat < a_ranked.length := by omega
    have hz : 0 ≤ n - 1 := by omega
    have hz2 : n - 1 < (a_ranked.length : Int) := by omega
    have hwn : IntKind.i64.wrap (n - 1) = n - 1 := wrap64 (by omega) (by omega)
    obtain ⟨hr0, hr1⟩ := ha1 _ (nth_mem hk)
    have hwi : IntKind.i64.wrap ((i : Int) + 1) = (i : Int) + 1 := wrap64 (by omega) (by omega)
    have hq := hr1 (nth (nth a_ranked (n - 1).toNat) i) (nth_mem hi)
    simp only [smLInt] at hq
    by_cases hc : nth (nth a_ranked (n - 1).toNat) i = p
    · simp -implicitDefEqProofs [r49_0, r49_1, r49_2, r49_3, r49_4, r49_5, r49_6, r49_7, l49_0, ha0, ha1, h1, h2, h3, call79, callz79, e79, -List.getElem?_map, -getElem?_pos, -Int.pred_toNat, List.getElem?_cons_zero, map_get, -List.map_take, -List.map_drop, take_map, drop_map, upd_ne, frOf_set, frOf_get, frOf_getD, encInt, encLInt, encLLInt, t2, t14, t15, t16, hi, hwi, hq, hc]
      refine .ret _ _ (Or.inl ⟨_, _, rfl, (by first | rfl | assumption | simp [upd, *]), ?_⟩); exact idxF_hit hi hf (decide_eq_true hc)
    · simp -implicitDefEqProofs [r49_0, r49_1, r49_2, r49_3, r49_4, r49_5, r49_6, r49_7, l49_0, ha0, ha1, h1, h2, h3, call79, callz79, e79, -List.getElem?_map, -getElem?_pos, -Int.pred_toNat, List.getElem?_cons_zero, map_get, -List.map_take, -List.map_drop, take_map, drop_map, upd_ne, frOf_set, frOf_get, frOf_getD, encInt, encLInt, encLLInt, t2, t14, t15, t16, hi, hwi, hq, hc]
      refine .go _ _ ⟨_, rfl, (by first | rfl | assumption | simp [upd, *]), (by first | rfl | assumption | simp [upd, *]), (by first | rfl | assumption | simp [upd, *]), (by first | rfl | assumption | simp [upd, *]), rfl, ?_⟩; exact none_succ hf (decide_eq_false hc)
  · rintro fr S ⟨f, rfl, t2, t14, t15, t16, rfl, hf⟩
    have hk : (n - 1).toNat < a_ranked.length := by omega
    have hz : 0 ≤ n - 1 := by omega
    have hz2 : n - 1 < (a_ranked.length : Int) := by omega
    have hwn : IntKind.i64.wrap (n - 1) = n - 1 := wrap64 (by omega) (by omega)
    obtain ⟨hr0, hr1⟩ := ha1 _ (nth_mem hk)
    simp -implicitDefEqProofs [r49_0, r49_1, r49_2, r49_3, r49_4, r49_5, r49_6, r49_7, l49_0, ha0, ha1, h1, h2, h3, call79, callz79, e79, -List.getElem?_map, -getElem?_pos, -Int.pred_toNat, List.getElem?_cons_zero, map_get, -List.map_take, -List.map_drop, take_map, drop_map, upd_ne, frOf_set, frOf_get, frOf_getD, encInt, encLInt, encLLInt, t2, t14, t15, t16]
    refine .exit _ _ _ (Or.inr ⟨_, rfl, ?_⟩)
    exact idxF_miss hf
theorem e49 (a_ranked : (List (List (List Int)))) (n : Int) (p : (List Int)) (ha0 : a_ranked.length ≤ 1048576) (ha1 : smsLLInt a_ranked) (h1 : 1 ≤ n) (h2 : n ≤ (a_ranked.length : Int)) (h3 : p.length ≤ 1048576) : evFL T 49 [.agg [.ts .imm 1 (a_ranked.map (encLLInt .imm))], .int .i64 n, .ts .imm 1 (p.map encInt)] [] = some (.int .i64 (atI (nth a_ranked (n - 1).toNat) p), []) := by
  rw [evFL_at fn49 (by simp)]
  have hk : (n - 1).toNat < a_ranked.length := by omega
  have hz : 0 ≤ n - 1 := by omega
  have hz2 : n - 1 < (a_ranked.length : Int) := by omega
  have hwn : IntKind.i64.wrap (n - 1) = n - 1 := wrap64 (by omega) (by omega)
  obtain ⟨hr0, hr1⟩ := ha1 _ (nth_mem hk)
  simp -implicitDefEqProofs [c49, r49_0, r49_1, r49_2, r49_3, r49_4, r49_5, r49_6, r49_7, ha0, ha1, h1, h2, h3, call79, callz79, e79, -List.getElem?_map, -getElem?_pos, -Int.pred_toNat, List.getElem?_cons_zero, map_get, -List.map_take, -List.map_drop, take_map, drop_map, upd_ne, frOf_set, frOf_get, frOf_getD, encInt, encLInt, encLLInt, hk, hz, hz2, hwn]
  generalize hr : evCL T 0 (.loop l49_0) _ _ = r
  have h : R49_0 a_ranked n p  r := by rw [← hr]; exact L49_0 a_ranked n p ha0 ha1 h1 h2 h3  (0) _ _ (by omega) ⟨_, rfl, (by simp [upd, *]), (by simp [upd, *]), (by simp [upd, *]), (by simp [upd, *]), rfl, by simp⟩
  clear hr
  rcases h with h | h
  · obtain ⟨f0, j, rfl, u0_6, hf0⟩ := h
    simp -implicitDefEqProofs [r49_0, r49_1, r49_2, r49_3, r49_4, r49_5, r49_6, r49_7, ha0, ha1, h1, h2, h3, call79, callz79, e79, -List.getElem?_map, -getElem?_pos, -Int.pred_toNat, List.getElem?_cons_zero, map_get, -List.map_take, -List.map_drop, take_map, drop_map, upd_ne, frOf_set, frOf_get, frOf_getD, encInt, encLInt, encLLInt, u0_6, hf0] <;> try omega
  obtain ⟨f0, rfl, hf0⟩ := h
  simp -implicitDefEqProofs [r49_0, r49_1, r49_2, r49_3, r49_4, r49_5, r49_6, r49_7, ha0, ha1, h1, h2, h3, call79, callz79, e79, -List.getElem?_map, -getElem?_pos, -Int.pred_toNat, List.getElem?_cons_zero, map_get, -List.map_take, -List.map_drop, take_map, drop_map, upd_ne, frOf_set, frOf_get, frOf_getD, encInt, encLInt, encLLInt, hf0] <;> try omega
-- spec.l1Has
@[simp] theorem call87 {m : Nat} (args : List AV) (S : St) : evCall T m (evFL T) 87 args S = lendC (evFL T 87) S (lendAll S i87.pes args) := evCall0 fn87 rfl rfl args S
@[simp] theorem callz87 (args : List AV) (S : St) : evCallFz T (evFL T) 87 args S = lendZ (evFL T 87) S i87.res (lendAll S i87.pes args) := evCallFz0 fn87 rfl rfl args S
@[simp] theorem pes87 : i87.pes = [[1], [0]] := rfl
@[simp] theorem body87 : i87.body = c87 := rfl
@[simp] theorem kind87 : i87.kind = 0 := rfl
@[simp] theorem tree87 : i87.tree = false := rfl
@[simp] theorem ntmps87 : i87.ntmps = 17 := rfl
@[simp] theorem results87 : i87.results = [(ResultVar.tmp 4)] := rfl
@[simp] theorem res87 : i87.res = [[0]] := rfl
def I87_0 (a : (List Int)) (v : Int)  (i : Nat) (fr : Fr) (S : St) : Prop := ∃ f : Nat → AV, fr = frOf 17 f ∧ f 1 = .int .i64 v ∧ f 7 = .ts .imm 1 (a.map encInt) ∧ f 8 = .int .i64 a.length ∧ f 9 = .int .i64 i ∧ S = [] ∧ ∀ j, j < i → decide (nth a j = v) = false
def R87_0 (a : (List Int)) (v : Int)  (r : Option (Ex × Fr × St)) : Prop := (∃ f : Nat → AV, r = some (.ret, frOf 17 f, []) ∧ f 4 = .bool true ∧ hasI a v = true) ∨ (∃ f : Nat → AV, r = some (.exit 0, frOf 17 f, []) ∧ hasI a v = false)
theorem L87_0 (a : (List Int)) (v : Int) (h0 : a.length ≤ 1048576)   : ∀ i fr S, i ≤ a.length → I87_0 a v  i fr S → R87_0 a v  (evCL T 0 (.loop l87_0) fr S) := by
  refine loopQ _ _ _ ?_ ?_
  · rintro i fr S hi ⟨f, rfl, t1, t7, t8, t9, rfl, hf⟩
    have hwi : IntKind.i64.wrap ((i : Int) + 1) = (i : Int) + 1 := wrap64 (by omega) (by omega)
    by_cases ht1 : nth a i = v
    · simp -implicitDefEqProofs [r87_0, r87_1, r87_2, r87_3, r87_4, r87_5, r87_6, r87_7, l87_0, h0, -List.getElem?_map, -getElem?_pos, -Int.pred_toNat, List.getElem?_cons_zero, map_get, -List.map_take, -List.map_drop, take_map, drop_map, upd_ne, frOf_set, frOf_get, frOf_getD, encInt, t1, t7, t8, t9, hi, hwi, ht1]
      refine .ret _ _ (Or.inl ⟨_, rfl, (by first | rfl | assumption | simp [upd, *]), ?_⟩); exact any_hit hi (by simp [ht1])
    · simp -implicitDefEqProofs [r87_0, r87_1, r87_2, r87_3, r87_4, r87_5, r87_6, r87_7, l87_0, h0, -List.getElem?_map, -getElem?_pos, -Int.pred_toNat, List.getElem?_cons_zero, map_get, -List.map_take, -List.map_drop, take_map, drop_map, upd_ne, frOf_set, frOf_get, frOf_getD, encInt, t1, t7, t8, t9, hi, hwi, ht1]
      refine .go _ _ ⟨_, rfl, (by first | rfl | assumption | simp [upd, *]), (by first | rfl | assumption | simp [upd, *]), (by first | rfl | assumption | simp [upd, *]), (by first | rfl | assumption | simp [upd, *]), rfl, ?_⟩; exact none_succ hf (by simp [ht1])
  · rintro fr S ⟨f, rfl, t1, t7, t8, t9, rfl, hf⟩
    simp -implicitDefEqProofs [r87_0, r87_1, r87_2, r87_3, r87_4, r87_5, r87_6, r87_7, l87_0, h0, -List.getElem?_map, -getElem?_pos, -Int.pred_toNat, List.getElem?_cons_zero, map_get, -List.map_take, -List.map_drop, take_map, drop_map, upd_ne, frOf_set, frOf_get, frOf_getD, encInt, t1, t7, t8, t9]
    refine .exit _ _ _ (Or.inr ⟨_, rfl, ?_⟩)
    exact any_no hf
theorem e87 (a : (List Int)) (v : Int) (h0 : a.length ≤ 1048576) : evFL T 87 [.ts .imm 1 (a.map encInt), .int .i64 v] [] = some (.bool (hasI a v), []) := by
  rw [evFL_at fn87 (by simp)]
  simp -implicitDefEqProofs [c87, r87_0, r87_1, r87_2, r87_3, r87_4, r87_5, r87_6, r87_7, h0, -List.getElem?_map, -getElem?_pos, -Int.pred_toNat, List.getElem?_cons_zero, map_get, -List.map_take, -List.map_drop, take_map, drop_map, upd_ne, frOf_set, frOf_get, frOf_getD, encInt]
  generalize hr : evCL T 0 (.loop l87_0) _ _ = r
  have h : R87_0 a v  r := by rw [← hr]; exact L87_0 a v h0  (0) _ _ (by omega) ⟨_, rfl, (by simp [upd, *]), (by simp [upd, *]), (by simp [upd, *]), (by simp [upd, *]), rfl, by simp⟩
  clear hr
  rcases h with h | h
  · obtain ⟨f0, rfl, u0_4, hf0⟩ := h
    simp -implicitDefEqProofs [r87_0, r87_1, r87_2, r87_3, r87_4, r87_5, r87_6, r87_7, h0, -List.getElem?_map, -getElem?_pos, -Int.pred_toNat, List.getElem?_cons_zero, map_get, -List.map_take, -List.map_drop, take_map, drop_map, upd_ne, frOf_set, frOf_get, frOf_getD, encInt, u0_4, hf0] <;> try omega
  obtain ⟨f0, rfl, hf0⟩ := h
  simp -implicitDefEqProofs [r87_0, r87_1, r87_2, r87_3, r87_4, r87_5, r87_6, r87_7, h0, -List.getElem?_map, -getElem?_pos, -Int.pred_toNat, List.getElem?_cons_zero, map_get, -List.map_take, -List.map_drop, take_map, drop_map, upd_ne, frOf_set, frOf_get, frOf_getD, encInt, hf0] <;> try omega
theorem idxF_le {α : Type} [Inhabited α] {p : α → Bool} : ∀ {xs : List α} {j : Nat}, j < xs.length → p (nth xs j) = true → idxF p xs ≤ j ∧ 0 ≤ idxF p xs := by
  intro xs
  induction xs with
  | nil => intro j h; simp at h
  | cons x r ih =>
    intro j h hp
    cases j with
    | zero => simp [nth] at hp; simp [idxF, hp]
    | succ j =>
      have := ih (j := j) (by simpa using h) (by simpa [nth] using hp)
      simp only [idxF]
      split
      · omega
      · have h2 : ¬ idxF p r < 0 := by omega
        simp only [h2, if_false]; omega
theorem rank_at {l : List (List Int)} {i : Nat} (hi : i < l.length) : decide (atI l (nth l i) = i) = !(l.take i).any fun q => decide (q = nth l i) := by
  cases h : (l.take i).any fun q => decide (q = nth l i) with
  | false =>
    have h1 : ∀ j, j < i → decide (nth l j = nth l i) = false := by
      intro j hj
      have h2 := List.any_eq_false.1 h (nth l j) (by rw [← nth_take hj]; exact nth_mem (by simp; omega))
      simpa using h2
    have := idxF_hit (p := fun q => decide (q = nth l i)) hi h1 (by simp)
    simp [atI, this]
  | true =>
    obtain ⟨x, hx, hp⟩ := List.any_eq_true.1 h
    obtain ⟨j, hj, rfl⟩ := List.getElem_of_mem hx
    simp at hj
    rw [← nth_eq (by simp; omega), nth_take (by omega)] at hp
    have := idxF_le (p := fun q => decide (q = nth l i)) (xs := l) (j := j) (by omega) hp
    have h9 : atI l (nth l i) ≠ (i : Int) := by unfold atI; omega
    simp [h9]
theorem pig : ∀ (n : Nat) (p : List Int), (∀ x ∈ p, 0 ≤ x ∧ x < n) → p.Pairwise (· ≠ ·) → p.length ≤ n := by
  intro n
  induction n with
  | zero =>
    intro p h _
    cases p with
    | nil => simp
    | cons x r => have := h x (by simp); omega
  | succ n ih =>
    intro p h hp
    have h1 := ih (p.filter fun x : Int => decide (x ≠ (n : Int))) (fun x hx => by
      rw [List.mem_filter] at hx
      have := h x hx.1
      simp at hx
      omega) (hp.filter _)
    have h2 : (p.filter fun x : Int => decide (x = (n : Int))).length ≤ 1 := by
      clear h1 ih h
      induction p with
      | nil => simp
      | cons x r ih2 =>
        rw [List.pairwise_cons] at hp
        by_cases hx : x = (n : Int)
        · have : r.filter (fun x : Int => decide (x = (n : Int))) = [] := by
            rw [List.filter_eq_nil_iff]
            intro y hy
            have := hp.1 y hy
            simp; omega
          simp [hx, this]
        · simp [hx]; exact ih2 hp.2
    have h3 : ∀ q : List Int, q.length = (q.filter fun x => decide (x = (n : Int))).length + (q.filter fun x => decide (x ≠ (n : Int))).length := by
      intro q
      induction q with
      | nil => rfl
      | cons x r ih3 => by_cases hx : x = (n : Int) <;> simp [hx] at ih3 ⊢ <;> omega
    have := h3 p
    omega
theorem way_len {rk : List (List (List Int))} {node : Int} {p : List Int} (hr : rk.length ≤ 5) (h : isWayB rk node p = true) : p.length ≤ 6 := by
  simp only [isWayB, Bool.and_eq_true] at h
  have h1 := allB_iff.1 h.1.2
  have h2 : ∀ i, i < p.length → 0 ≤ nth p i ∧ nth p i ≤ rk.length ∧ nth p i ∉ p.take i := by
    intro i hi
    have := h1 i hi
    simp only [wayP, Bool.and_eq_true, decide_eq_true_eq, Bool.not_eq_true'] at this
    refine ⟨this.1.1.1, this.1.1.2, fun hm => ?_⟩
    have h3 := this.1.2
    rw [hasI_iff.2 hm] at h3
    cases h3
  refine pig 6 p (fun x hx => ?_) ?_
  · obtain ⟨i, hi, rfl⟩ := List.getElem_of_mem hx
    have := h2 i hi
    rw [← nth_eq hi]; omega
  · rw [List.pairwise_iff_getElem]
    intro i j hi hj hij e
    have := (h2 j hj).2.2
    rw [nth_eq hj] at this
    refine this ?_
    rw [← e, ← nth_eq hi, ← nth_take hij]
    exact nth_mem (by simp; omega)
-- spec.l10Path
@[simp] theorem call48 {m : Nat} (args : List AV) (S : St) : evCall T m (evFL T) 48 args S = lendC (evFL T 48) S (lendAll S i48.pes args) := evCall0 fn48 rfl rfl args S
@[simp] theorem callz48 (args : List AV) (S : St) : evCallFz T (evFL T) 48 args S = lendZ (evFL T 48) S i48.res (lendAll S i48.pes args) := evCallFz0 fn48 rfl rfl args S
@[simp] theorem pes48 : i48.pes = [[1], [0], [1]] := rfl
@[simp] theorem body48 : i48.body = c48 := rfl
@[simp] theorem kind48 : i48.kind = 0 := rfl
@[simp] theorem tree48 : i48.tree = false := rfl
@[simp] theorem ntmps48 : i48.ntmps = 78 := rfl
@[simp] theorem results48 : i48.results = [(ResultVar.tmp 6)] := rfl
@[simp] theorem res48 : i48.res = [[0]] := rfl
def I48_0 (a_ranked : (List (List (List Int)))) (n : Int) (p : (List Int))  (i : Nat) (fr : Fr) (S : St) : Prop := ∃ f : Nat → AV, fr = frOf 78 f ∧ f 2 = .ts .imm 1 (p.map encInt) ∧ f 3 = .ptr 0 0 0 ∧ f 7 = .int .i64 (a_ranked.length : Int) ∧ f 32 = .ts .imm 1 (p.map encInt) ∧ f 33 = .int .i64 p.length ∧ f 34 = .int .i64 i ∧ S = [some ⟨.box, 1, [[.ts .imm 1 (a_ranked.map (encLLInt .imm))]]⟩] ∧ allB i (wayP (a_ranked.length : Int) p) = true
def R48_0 (a_ranked : (List (List (List Int)))) (n : Int) (p : (List Int))  (r : Option (Ex × Fr × St)) : Prop := (∃ f : Nat → AV, r = some (.ret, frOf 78 f, [some ⟨.box, 1, [[.ts .imm 1 (a_ranked.map (encLLInt .imm))]]⟩]) ∧ f 6 = .bool false ∧ allB p.length (wayP (a_ranked.length : Int) p) = false) ∨ (∃ f : Nat → AV, r = some (.exit 0, frOf 78 f, [some ⟨.box, 1, [[.ts .imm 1 (a_ranked.map (encLLInt .imm))]]⟩]) ∧ f 2 = .ts .imm 1 (p.map encInt) ∧ f 3 = .ptr 0 0 0 ∧ allB p.length (wayP (a_ranked.length : Int) p) = true)
theorem L48_0 (a_ranked : (List (List (List Int)))) (n : Int) (p : (List Int)) (ha0 : a_ranked.length ≤ 1048576) (ha1 : smsLLInt a_ranked) (h0 : p.length ≤ 1048576)   : ∀ i fr S, i ≤ p.length → I48_0 a_ranked n p  i fr S → R48_0 a_ranked n p  (evCL T 0 (.loop l48_0) fr S) := by
  refine loopQ _ _ _ ?_ ?_
  · rintro i fr S hi ⟨f, rfl, t2, t3, t7, t32, t33, t34, rfl, hf⟩
    have hwi : IntKind.i64.wrap ((i : Int) + 1) = (i : Int) + 1 := wrap64 (by omega) (by omega)
    have hile : i ≤ p.length := Nat.le_of_lt hi
    have hmin : min i p.length = i := by omega
    have hib : i ≤ 1048576 := by omega
    have hwl : IntKind.i64.wrap ((p.length : Int) - 1) = ((p.length - 1 : Nat) : Int) := by rw [wrap64 (by omega) (by omega)]; omega
    by_cases ht1 : nth p i < 0
    · simp -implicitDefEqProofs [r48_0, r48_1, r48_2, r48_3, r48_4, r48_5, r48_6, r48_7, r48_8, r48_9, r48_10, l48_0, ha0, ha1, h0, call49, callz49, e49, call87, callz87, e87, -List.getElem?_map, -getElem?_pos, -Int.pred_toNat, List.getElem?_cons_zero, map_get, -List.map_take, -List.map_drop, take_map, drop_map, upd_ne, frOf_set, frOf_get, frOf_getD, encInt, -List.drop_one, t2, t3, t7, t32, t33, t34, hi, hwi, hile, hmin, hib, hwl, ht1]
      refine .ret _ _ (Or.inl ⟨_, rfl, (by first | rfl | assumption | simp [upd, *]), ?_⟩); exact allB_no hi (by have h9 : ¬ (0 ≤ nth p i ∧ nth p i ≤ (a_ranked.length : Int)) := (by omega); simp only [wayP, h9, decide_false, Bool.false_and])
    · by_cases ht2 : (a_ranked.length : Int) < nth p i
      · simp -implicitDefEqProofs [r48_0, r48_1, r48_2, r48_3, r48_4, r48_5, r48_6, r48_7, r48_8, r48_9, r48_10, l48_0, ha0, ha1, h0, call49, callz49, e49, call87, callz87, e87, -List.getElem?_map, -getElem?_pos, -Int.pred_toNat, List.getElem?_cons_zero, map_get, -List.map_take, -List.map_drop, take_map, drop_map, upd_ne, frOf_set, frOf_get, frOf_getD, encInt, -List.drop_one, t2, t3, t7, t32, t33, t34, hi, hwi, hile, hmin, hib, hwl, ht1, ht2]
        refine .ret _ _ (Or.inl ⟨_, rfl, (by first | rfl | assumption | simp [upd, *]), ?_⟩); exact allB_no hi (by have h9 : ¬ (0 ≤ nth p i ∧ nth p i ≤ (a_ranked.length : Int)) := (by omega); simp only [wayP, h9, decide_false, Bool.false_and])
      · by_cases ht3 : hasI (p.take i) (nth p i) = true
        · simp -implicitDefEqProofs [r48_0, r48_1, r48_2, r48_3, r48_4, r48_5, r48_6, r48_7, r48_8, r48_9, r48_10, l48_0, ha0, ha1, h0, call49, callz49, e49, call87, callz87, e87, -List.getElem?_map, -getElem?_pos, -Int.pred_toNat, List.getElem?_cons_zero, map_get, -List.map_take, -List.map_drop, take_map, drop_map, upd_ne, frOf_set, frOf_get, frOf_getD, encInt, -List.drop_one, t2, t3, t7, t32, t33, t34, hi, hwi, hile, hmin, hib, hwl, ht1, ht2, ht3]
          refine .ret _ _ (Or.inl ⟨_, rfl, (by first | rfl | assumption | simp [upd, *]), ?_⟩); exact allB_no hi (by simp [wayP, ht3])
        · by_cases ht4 : nth p i = 0
          · have hn0 : ¬ (a_ranked.length : Int) < 0 := by omega
            have h30 : hasI (p.take i) 0 = false := by rw [← ht4]; simpa using ht3
            by_cases ht5 : i < p.length - 1
            · simp -implicitDefEqProofs [r48_0, r48_1, r48_2, r48_3, r48_4, r48_5, r48_6, r48_7, r48_8, r48_9, r48_10, l48_0, ha0, ha1, h0, call49, callz49, e49, call87, callz87, e87, -List.getElem?_map, -getElem?_pos, -Int.pred_toNat, List.getElem?_cons_zero, map_get, -List.map_take, -List.map_drop, take_map, drop_map, upd_ne, frOf_set, frOf_get, frOf_getD, encInt, -List.drop_one, t2, t3, t7, t32, t33, t34, hi, hwi, hile, hmin, hib, hwl, hn0, h30, ht1, ht2, ht3, ht4, ht5]
              refine .ret _ _ (Or.inl ⟨_, rfl, (by first | rfl | assumption | simp [upd, *]), ?_⟩); exact allB_no hi (by have h8 : ¬ i + 1 = p.length := (by omega); simp [wayP, ht4, h8])
            · have h8 : i + 1 = p.length := by omega
              simp -implicitDefEqProofs [r48_0, r48_1, r48_2, r48_3, r48_4, r48_5, r48_6, r48_7, r48_8, r48_9, r48_10, l48_0, ha0, ha1, h0, call49, callz49, e49, call87, callz87, e87, -List.getElem?_map, -getElem?_pos, -Int.pred_toNat, List.getElem?_cons_zero, map_get, -List.map_take, -List.map_drop, take_map, drop_map, upd_ne, frOf_set, frOf_get, frOf_getD, encInt, -List.drop_one, t2, t3, t7, t32, t33, t34, hi, hwi, hile, hmin, hib, hwl, hn0, h30, ht1, ht2, ht3, ht4, ht5]
              refine .go _ _ ⟨_, rfl, (by first | rfl | assumption | simp [upd, *]), (by first | rfl | assumption | simp [upd, *]), (by first | rfl | assumption | simp [upd, *]), (by first | rfl | assumption | simp [upd, *]), (by first | rfl | assumption | simp [upd, *]), (by first | rfl | assumption | simp [upd, *]), rfl, ?_⟩; rw [allB_succ, hf]; have h9 : (0 ≤ nth p i ∧ nth p i ≤ (a_ranked.length : Int)) := (by omega); simp [wayP, h30, ht4, h8]
          · simp -implicitDefEqProofs [r48_0, r48_1, r48_2, r48_3, r48_4, r48_5, r48_6, r48_7, r48_8, r48_9, r48_10, l48_0, ha0, ha1, h0, call49, callz49, e49, call87, callz87, e87, -List.getElem?_map, -getElem?_pos, -Int.pred_toNat, List.getElem?_cons_zero, map_get, -List.map_take, -List.map_drop, take_map, drop_map, upd_ne, frOf_set, frOf_get, frOf_getD, encInt, -List.drop_one, t2, t3, t7, t32, t33, t34, hi, hwi, hile, hmin, hib, hwl, ht1, ht2, ht3, ht4]
            refine .go _ _ ⟨_, rfl, (by first | rfl | assumption | simp [upd, *]), (by first | rfl | assumption | simp [upd, *]), (by first | rfl | assumption | simp [upd, *]), (by first | rfl | assumption | simp [upd, *]), (by first | rfl | assumption | simp [upd, *]), (by first | rfl | assumption | simp [upd, *]), rfl, ?_⟩; rw [allB_succ, hf]; have h9 : (0 ≤ nth p i ∧ nth p i ≤ (a_ranked.length : Int)) := (by omega); simp [wayP, h9, ht3, ht4]
  · rintro fr S ⟨f, rfl, t2, t3, t7, t32, t33, t34, rfl, hf⟩
    simp -implicitDefEqProofs [r48_0, r48_1, r48_2, r48_3, r48_4, r48_5, r48_6, r48_7, r48_8, r48_9, r48_10, l48_0, ha0, ha1, h0, call49, callz49, e49, call87, callz87, e87, -List.getElem?_map, -getElem?_pos, -Int.pred_toNat, List.getElem?_cons_zero, map_get, -List.map_take, -List.map_drop, take_map, drop_map, upd_ne, frOf_set, frOf_get, frOf_getD, encInt, -List.drop_one, t2, t3, t7, t32, t33, t34]
    refine .exit _ _ _ (Or.inr ⟨_, rfl, (by first | rfl | assumption | simp [upd, *]), (by first | rfl | assumption | simp [upd, *]), ?_⟩)
    first | trivial | assumption | simp [*]
theorem e48 (a_ranked : (List (List (List Int)))) (n : Int) (p : (List Int)) (ha0 : a_ranked.length ≤ 1048576) (ha1 : smsLLInt a_ranked) (h0 : p.length ≤ 1048576) : evFL T 48 [.agg [.ts .imm 1 (a_ranked.map (encLLInt .imm))], .int .i64 n, .ts .imm 1 (p.map encInt)] [] = some (.bool (isWayB a_ranked n p), []) := by
  rw [evFL_at fn48 (by simp)]
  by_cases hl2 : p.length < 2
  · have h2i : (p.length : Int) < 2 := by omega
    have h2j : ¬ (2 ≤ p.length) := by omega
    simp -implicitDefEqProofs [c48, r48_0, r48_1, r48_2, r48_3, r48_4, r48_5, r48_6, r48_7, r48_8, r48_9, r48_10, ha0, ha1, h0, call49, callz49, e49, call87, callz87, e87, -List.getElem?_map, -getElem?_pos, -Int.pred_toNat, List.getElem?_cons_zero, map_get, -List.map_take, -List.map_drop, take_map, drop_map, upd_ne, frOf_set, frOf_get, frOf_getD, encInt, -List.drop_one, h2i, h2j, isWayB]
  have h2i : ¬ (p.length : Int) < 2 := by omega
  have hr2 : 2 ≤ p.length := by omega
  have hc0 : 0 < p.length := by omega
  have hcl : p.length - 1 < p.length := by omega
  have hwl : IntKind.i64.wrap ((p.length : Int) - 1) = ((p.length - 1 : Nat) : Int) := by rw [wrap64 (by omega) (by omega)]; omega
  have hz : (0 : Int) < (p.length : Int) := by omega
  have hp9 : p ≠ [] := by intro e; rw [e] at hc0; simp at hc0
  by_cases hb1 : nth p 0 ≠ n
  · simp -implicitDefEqProofs [c48, r48_0, r48_1, r48_2, r48_3, r48_4, r48_5, r48_6, r48_7, r48_8, r48_9, r48_10, ha0, ha1, h0, call49, callz49, e49, call87, callz87, e87, -List.getElem?_map, -getElem?_pos, -Int.pred_toNat, List.getElem?_cons_zero, map_get, -List.map_take, -List.map_drop, take_map, drop_map, upd_ne, frOf_set, frOf_get, frOf_getD, encInt, -List.drop_one, h2i, hc0, hcl, hwl, hz, hp9, hb1, isWayB]
  replace hb1 : nth p 0 = n := by omega
  by_cases hb2 : nth p (p.length - 1) ≠ 0
  · simp -implicitDefEqProofs [c48, r48_0, r48_1, r48_2, r48_3, r48_4, r48_5, r48_6, r48_7, r48_8, r48_9, r48_10, ha0, ha1, h0, call49, callz49, e49, call87, callz87, e87, -List.getElem?_map, -getElem?_pos, -Int.pred_toNat, List.getElem?_cons_zero, map_get, -List.map_take, -List.map_drop, take_map, drop_map, upd_ne, frOf_set, frOf_get, frOf_getD, encInt, -List.drop_one, h2i, hc0, hcl, hwl, hz, hp9, hb1, hb2, isWayB]
  replace hb2 : nth p (p.length - 1) = 0 := by omega
  simp -implicitDefEqProofs [c48, r48_0, r48_1, r48_2, r48_3, r48_4, r48_5, r48_6, r48_7, r48_8, r48_9, r48_10, ha0, ha1, h0, call49, callz49, e49, call87, callz87, e87, -List.getElem?_map, -getElem?_pos, -Int.pred_toNat, List.getElem?_cons_zero, map_get, -List.map_take, -List.map_drop, take_map, drop_map, upd_ne, frOf_set, frOf_get, frOf_getD, encInt, -List.drop_one, h2i, hc0, hcl, hwl, hz, hp9, hb1, hb2]
  generalize hr : evCL T 0 (.loop l48_0) _ _ = r
  have h : R48_0 a_ranked n p  r := by rw [← hr]; exact L48_0 a_ranked n p ha0 ha1 h0  (0) _ _ (by omega) ⟨_, rfl, (by simp [upd, *]), (by simp [upd, *]), (by simp [upd, *]), (by simp [upd, *]), (by simp [upd, *]), (by simp [upd, *]), rfl, by first | trivial | assumption | simp⟩
  clear hr
  rcases h with h | h
  · obtain ⟨f0, rfl, u0_6, hf0⟩ := h
    simp -implicitDefEqProofs [r48_0, r48_1, r48_2, r48_3, r48_4, r48_5, r48_6, r48_7, r48_8, r48_9, r48_10, ha0, ha1, h0, call49, callz49, e49, call87, callz87, e87, -List.getElem?_map, -getElem?_pos, -Int.pred_toNat, List.getElem?_cons_zero, map_get, -List.map_take, -List.map_drop, take_map, drop_map, upd_ne, frOf_set, frOf_get, frOf_getD, encInt, -List.drop_one, u0_6, hf0, isWayB]
  obtain ⟨f0, rfl, u0_2, u0_3, hf0⟩ := h
  have hW : isWayB a_ranked n p = onB a_ranked p := by simp only [isWayB, hb1, hb2, hf0, hr2, decide_true, Bool.true_and]
  by_cases h2 : p.length = 2
  · have h2i : (p.length : Int) = 2 := by omega
    have hO : onB a_ranked p = true := by simp [onB, h2]
    simp -implicitDefEqProofs [r48_0, r48_1, r48_2, r48_3, r48_4, r48_5, r48_6, r48_7, r48_8, r48_9, r48_10, ha0, ha1, h0, call49, callz49, e49, call87, callz87, e87, -List.getElem?_map, -getElem?_pos, -Int.pred_toNat, List.getElem?_cons_zero, map_get, -List.map_take, -List.map_drop, take_map, drop_map, upd_ne, frOf_set, frOf_get, frOf_getD, encInt, -List.drop_one, u0_2, u0_3, hf0, hW, hO, h2i]
  · have h2i : ¬ (p.length : Int) = 2 := by omega
    have hw1 := way_one hf0 (by omega)
    have hc1 : 1 < p.length := by omega
    have hc2 : (1 : Int) ≤ (p.length : Int) := by omega
    have hc3 : (1 : Int) < (p.length : Int) := by omega
    have hc4 : 1 ≤ p.length := by omega
    have he := e49 a_ranked (nth p 1) (p.drop 1) ha0 ha1 hw1.1 hw1.2 (by simp; omega)
    simp -implicitDefEqProofs [r48_0, r48_1, r48_2, r48_3, r48_4, r48_5, r48_6, r48_7, r48_8, r48_9, r48_10, ha0, ha1, h0, call49, callz49, e49, call87, callz87, e87, -List.getElem?_map, -getElem?_pos, -Int.pred_toNat, List.getElem?_cons_zero, map_get, -List.map_take, -List.map_drop, take_map, drop_map, upd_ne, frOf_set, frOf_get, frOf_getD, encInt, -List.drop_one, u0_2, u0_3, hf0, hW, onB, h2, h2i, hc1, hc2, hc3, hc4, he, atI, idxF_any]
-- spec.GoodSpp
@[simp] theorem call14 {m : Nat} (args : List AV) (S : St) : evCall T m (evFL T) 14 args S = lendC (evFL T 14) S (lendAll S i14.pes args) := evCall0 fn14 rfl rfl args S
@[simp] theorem callz14 (args : List AV) (S : St) : evCallFz T (evFL T) 14 args S = lendZ (evFL T 14) S i14.res (lendAll S i14.pes args) := evCallFz0 fn14 rfl rfl args S
@[simp] theorem pes14 : i14.pes = [[1]] := rfl
@[simp] theorem body14 : i14.body = c14 := rfl
@[simp] theorem kind14 : i14.kind = 0 := rfl
@[simp] theorem tree14 : i14.tree = false := rfl
@[simp] theorem ntmps14 : i14.ntmps = 47 := rfl
@[simp] theorem results14 : i14.results = [(ResultVar.tmp 2)] := rfl
@[simp] theorem res14 : i14.res = [[0]] := rfl
def I14_0 (a_ranked : (List (List (List Int)))) (k0 : Nat) (i : Nat) (fr : Fr) (S : St) : Prop := ∃ f : Nat → AV, fr = frOf 47 f ∧ f 1 = .ptr 0 0 0 ∧ f 3 = .int .i64 k0 ∧ f 13 = .ts .imm 1 (a_ranked.map (encLLInt .imm)) ∧ f 14 = .int .i64 a_ranked.length ∧ f 15 = .int .i64 k0 ∧ f 23 = .ts .imm 1 ((nth a_ranked k0).map (encLInt .imm)) ∧ f 24 = .int .i64 (nth a_ranked k0).length ∧ f 25 = .int .i64 i ∧ S = [some ⟨.box, 1, [[.ts .imm 1 (a_ranked.map (encLLInt .imm))]]⟩] ∧ allB i (rankP a_ranked k0 (nth a_ranked k0)) = true
def R14_0 (a_ranked : (List (List (List Int)))) (k0 : Nat) (r : Option (Ex × Fr × St)) : Prop := (∃ f : Nat → AV, r = some (.ret, frOf 47 f, [some ⟨.box, 1, [[.ts .imm 1 (a_ranked.map (encLLInt .imm))]]⟩]) ∧ f 2 = .bool false ∧ allB (nth a_ranked k0).length (rankP a_ranked k0 (nth a_ranked k0)) = false) ∨ (∃ f : Nat → AV, r = some (.exit 2, frOf 47 f, [some ⟨.box, 1, [[.ts .imm 1 (a_ranked.map (encLLInt .imm))]]⟩]) ∧ f 1 = .ptr 0 0 0 ∧ f 13 = .ts .imm 1 (a_ranked.map (encLLInt .imm)) ∧ f 14 = .int .i64 a_ranked.length ∧ f 15 = .int .i64 k0 ∧ allB (nth a_ranked k0).length (rankP a_ranked k0 (nth a_ranked k0)) = true)
theorem L14_0 (a_ranked : (List (List (List Int)))) (ha0 : a_ranked.length ≤ 1048576) (ha1 : smsLLInt a_ranked) (k0 : Nat) (hk0 : k0 < a_ranked.length) (hr0 : (nth a_ranked k0).length ≤ 1048576) (hr1 : smsLInt (nth a_ranked k0)) : ∀ i fr S, i ≤ (nth a_ranked k0).length → I14_0 a_ranked k0 i fr S → R14_0 a_ranked k0 (evCL T 0 (.loop l14_0) fr S) := by
  refine loopQ _ _ _ ?_ ?_
  · rintro i fr S hi ⟨f, rfl, t1, t3, t13, t14, t15, t23, t24, t25, rfl, hf⟩
    have hwi : IntKind.i64.wrap ((i : Int) + 1) = (i : Int) + 1 := wrap64 (by omega) (by omega)
    have hq := hr1 (nth (nth a_ranked k0) i) (nth_mem hi)
    simp only [smLInt] at hq
    have hwk : IntKind.i64.wrap ((k0 : Int) + 1) = (k0 : Int) + 1 := wrap64 (by omega) (by omega)
    have e1 := e48 a_ranked ((k0 : Int) + 1) (nth (nth a_ranked k0) i) ha0 ha1 hq
    have e2 := e49 a_ranked ((k0 : Int) + 1) (nth (nth a_ranked k0) i) ha0 ha1 (by omega) (by omega) hq
    have hk9 : ((k0 : Int) + 1 - 1).toNat = k0 := by omega
    rw [hk9] at e2
    have hra := rank_at hi
    by_cases ht1 : isWayB a_ranked ((k0 : Int) + 1) (nth (nth a_ranked k0) i) = true
    · by_cases ht2 : atI (nth a_ranked k0) (nth (nth a_ranked k0) i) = (i : Int)
      · simp -implicitDefEqProofs [r14_0, r14_1, r14_2, r14_3, r14_4, r14_5, r14_6, r14_7, r14_8, r14_9, r14_10, r14_11, r14_12, r14_13, r14_14, r14_15, l14_0, ha0, ha1, call47, callz47, e47, call48, callz48, e48, call49, callz49, e49, -List.getElem?_map, -getElem?_pos, -Int.pred_toNat, List.getElem?_cons_zero, map_get, -List.map_take, -List.map_drop, take_map, drop_map, upd_ne, frOf_set, frOf_get, frOf_getD, encInt, encLInt, encLLInt, t1, t3, t13, t14, t15, t23, t24, t25, hi, hwi, hq, hwk, e1, e2, ht1, ht2]
        refine .go _ _ ⟨_, rfl, (by first | rfl | assumption | simp [upd, *]), (by first | rfl | assumption | simp [upd, *]), (by first | rfl | assumption | simp [upd, *]), (by first | rfl | assumption | simp [upd, *]), (by first | rfl | assumption | simp [upd, *]), (by first | rfl | assumption | simp [upd, *]), (by first | rfl | assumption | simp [upd, *]), (by first | rfl | assumption | simp [upd, *]), rfl, ?_⟩; rw [allB_succ, hf, Bool.true_and]; simp only [rankP, ht1, ← hra, ht2, decide_true, Bool.and_self]
      · simp -implicitDefEqProofs [r14_0, r14_1, r14_2, r14_3, r14_4, r14_5, r14_6, r14_7, r14_8, r14_9, r14_10, r14_11, r14_12, r14_13, r14_14, r14_15, l14_0, ha0, ha1, call47, callz47, e47, call48, callz48, e48, call49, callz49, e49, -List.getElem?_map, -getElem?_pos, -Int.pred_toNat, List.getElem?_cons_zero, map_get, -List.map_take, -List.map_drop, take_map, drop_map, upd_ne, frOf_set, frOf_get, frOf_getD, encInt, encLInt, encLLInt, t1, t3, t13, t14, t15, t23, t24, t25, hi, hwi, hq, hwk, e1, e2, ht1, ht2]
        refine .ret _ _ (Or.inl ⟨_, rfl, (by first | rfl | assumption | simp [upd, *]), ?_⟩); exact allB_no hi (by simp only [rankP, ← hra, ht2, decide_false, Bool.and_false])
    · simp -implicitDefEqProofs [r14_0, r14_1, r14_2, r14_3, r14_4, r14_5, r14_6, r14_7, r14_8, r14_9, r14_10, r14_11, r14_12, r14_13, r14_14, r14_15, l14_0, ha0, ha1, call47, callz47, e47, call48, callz48, e48, call49, callz49, e49, -List.getElem?_map, -getElem?_pos, -Int.pred_toNat, List.getElem?_cons_zero, map_get, -List.map_take, -List.map_drop, take_map, drop_map, upd_ne, frOf_set, frOf_get, frOf_getD, encInt, encLInt, encLLInt, t1, t3, t13, t14, t15, t23, t24, t25, hi, hwi, hq, hwk, e1, e2, ht1]
      refine .ret _ _ (Or.inl ⟨_, rfl, (by first | rfl | assumption | simp [upd, *]), ?_⟩); exact allB_no hi (by simp [rankP, ht1])
  · rintro fr S ⟨f, rfl, t1, t3, t13, t14, t15, t23, t24, t25, rfl, hf⟩
    simp -implicitDefEqProofs [r14_0, r14_1, r14_2, r14_3, r14_4, r14_5, r14_6, r14_7, r14_8, r14_9, r14_10, r14_11, r14_12, r14_13, r14_14, r14_15, l14_0, ha0, ha1, call47, callz47, e47, call48, callz48, e48, call49, callz49, e49, -List.getElem?_map, -getElem?_pos, -Int.pred_toNat, List.getElem?_cons_zero, map_get, -List.map_take, -List.map_drop, take_map, drop_map, upd_ne, frOf_set, frOf_get, frOf_getD, encInt, encLInt, encLLInt, t1, t3, t13, t14, t15, t23, t24, t25]
    refine .exit _ _ _ (Or.inr ⟨_, rfl, (by first | rfl | assumption | simp [upd, *]), (by first | rfl | assumption | simp [upd, *]), (by first | rfl | assumption | simp [upd, *]), (by first | rfl | assumption | simp [upd, *]), ?_⟩)
    first | trivial | assumption | simp [*]
def I14_1 (a_ranked : (List (List (List Int))))  (i : Nat) (fr : Fr) (S : St) : Prop := ∃ f : Nat → AV, fr = frOf 47 f ∧ f 1 = .ptr 0 0 0 ∧ f 13 = .ts .imm 1 (a_ranked.map (encLLInt .imm)) ∧ f 14 = .int .i64 a_ranked.length ∧ f 15 = .int .i64 i ∧ S = [some ⟨.box, 1, [[.ts .imm 1 (a_ranked.map (encLLInt .imm))]]⟩] ∧ allB i (ranksP a_ranked) = true
def R14_1 (a_ranked : (List (List (List Int))))  (r : Option (Ex × Fr × St)) : Prop := (∃ f : Nat → AV, r = some (.ret, frOf 47 f, [some ⟨.box, 1, [[.ts .imm 1 (a_ranked.map (encLLInt .imm))]]⟩]) ∧ f 2 = .bool false ∧ allB a_ranked.length (ranksP a_ranked) = false) ∨ (∃ f : Nat → AV, r = some (.exit 0, frOf 47 f, [some ⟨.box, 1, [[.ts .imm 1 (a_ranked.map (encLLInt .imm))]]⟩]) ∧ allB a_ranked.length (ranksP a_ranked) = true)
theorem L14_1 (a_ranked : (List (List (List Int)))) (ha0 : a_ranked.length ≤ 1048576) (ha1 : smsLLInt a_ranked)   : ∀ i fr S, i ≤ a_ranked.length → I14_1 a_ranked  i fr S → R14_1 a_ranked  (evCL T 0 (.loop l14_1) fr S) := by
  refine loopQ _ _ _ ?_ ?_
  · rintro i fr S hi ⟨f, rfl, t1, t13, t14, t15, rfl, hf⟩
    have hwi : IntKind.i64.wrap ((i : Int) + 1) = (i : Int) + 1 := wrap64 (by omega) (by omega)
    obtain ⟨hq0, hq1⟩ := ha1 _ (nth_mem hi)
    by_cases hc6 : (6 : Int) < ((nth a_ranked i).length : Int)
    · have hc7 : ¬ ((nth a_ranked i).length ≤ 6) := by omega
      simp -implicitDefEqProofs [r14_0, r14_1, r14_2, r14_3, r14_4, r14_5, r14_6, r14_7, r14_8, r14_9, r14_10, r14_11, r14_12, r14_13, r14_14, r14_15, l14_1, ha0, ha1, call47, callz47, e47, call48, callz48, e48, call49, callz49, e49, -List.getElem?_map, -getElem?_pos, -Int.pred_toNat, List.getElem?_cons_zero, map_get, -List.map_take, -List.map_drop, take_map, drop_map, upd_ne, frOf_set, frOf_get, frOf_getD, encInt, encLInt, encLLInt, t1, t13, t14, t15, hi, hwi, hc6]
      refine .ret _ _ (Or.inl ⟨_, rfl, (by first | rfl | assumption | simp [upd, *]), ?_⟩); exact allB_no hi (by simp [ranksP, hc7])
    have hc7 : (nth a_ranked i).length ≤ 6 := by omega
    simp -implicitDefEqProofs [r14_0, r14_1, r14_2, r14_3, r14_4, r14_5, r14_6, r14_7, r14_8, r14_9, r14_10, r14_11, r14_12, r14_13, r14_14, r14_15, l14_1, ha0, ha1, call47, callz47, e47, call48, callz48, e48, call49, callz49, e49, -List.getElem?_map, -getElem?_pos, -Int.pred_toNat, List.getElem?_cons_zero, map_get, -List.map_take, -List.map_drop, take_map, drop_map, upd_ne, frOf_set, frOf_get, frOf_getD, encInt, encLInt, encLLInt, t1, t13, t14, t15, hi, hwi, hc6]
    generalize hr : evCL T 0 (.loop l14_0) _ _ = r
    have h : R14_0 a_ranked i r := by rw [← hr]; exact L14_0 a_ranked ha0 ha1 i hi hq0 hq1 (0) _ _ (by omega) ⟨_, rfl, (by simp [upd, *]), (by simp [upd, *]), (by simp [upd, *]), (by simp [upd, *]), (by simp [upd, *]), (by simp [upd, *]), (by simp [upd, *]), (by simp [upd, *]), rfl, by first | trivial | assumption | simp⟩
    clear hr
    rcases h with h | h
    · obtain ⟨f0, rfl, u0_2, hf0⟩ := h
      simp -implicitDefEqProofs [r14_0, r14_1, r14_2, r14_3, r14_4, r14_5, r14_6, r14_7, r14_8, r14_9, r14_10, r14_11, r14_12, r14_13, r14_14, r14_15, l14_1, ha0, ha1, call47, callz47, e47, call48, callz48, e48, call49, callz49, e49, -List.getElem?_map, -getElem?_pos, -Int.pred_toNat, List.getElem?_cons_zero, map_get, -List.map_take, -List.map_drop, take_map, drop_map, upd_ne, frOf_set, frOf_get, frOf_getD, encInt, encLInt, encLLInt, t1, t13, t14, t15, u0_2]
      refine .ret _ _ (Or.inl ⟨_, rfl, (by first | rfl | assumption | simp [upd, *]), ?_⟩); exact allB_no hi (by simp [ranksP, hf0])
    obtain ⟨f0, rfl, u0_1, u0_13, u0_14, u0_15, hf0⟩ := h
    simp -implicitDefEqProofs [r14_0, r14_1, r14_2, r14_3, r14_4, r14_5, r14_6, r14_7, r14_8, r14_9, r14_10, r14_11, r14_12, r14_13, r14_14, r14_15, l14_1, ha0, ha1, call47, callz47, e47, call48, callz48, e48, call49, callz49, e49, -List.getElem?_map, -getElem?_pos, -Int.pred_toNat, List.getElem?_cons_zero, map_get, -List.map_take, -List.map_drop, take_map, drop_map, upd_ne, frOf_set, frOf_get, frOf_getD, encInt, encLInt, encLLInt, t1, t13, t14, t15, hi, hwi, u0_1, u0_13, u0_14, u0_15]
    refine .go _ _ ⟨_, rfl, (by first | rfl | assumption | simp [upd, *]), (by first | rfl | assumption | simp [upd, *]), (by first | rfl | assumption | simp [upd, *]), (by first | rfl | assumption | simp [upd, *]), rfl, ?_⟩; rw [allB_succ, hf]; simp [ranksP, hf0, hc7]
  · rintro fr S ⟨f, rfl, t1, t13, t14, t15, rfl, hf⟩
    simp -implicitDefEqProofs [r14_0, r14_1, r14_2, r14_3, r14_4, r14_5, r14_6, r14_7, r14_8, r14_9, r14_10, r14_11, r14_12, r14_13, r14_14, r14_15, l14_1, ha0, ha1, call47, callz47, e47, call48, callz48, e48, call49, callz49, e49, -List.getElem?_map, -getElem?_pos, -Int.pred_toNat, List.getElem?_cons_zero, map_get, -List.map_take, -List.map_drop, take_map, drop_map, upd_ne, frOf_set, frOf_get, frOf_getD, encInt, encLInt, encLLInt, t1, t13, t14, t15]
    refine .exit _ _ _ (Or.inr ⟨_, rfl, ?_⟩)
    first | trivial | assumption | simp [*]
theorem e14 (a_ranked : (List (List (List Int)))) (ha0 : a_ranked.length ≤ 1048576) (ha1 : smsLLInt a_ranked) : evFL T 14 [.agg [.ts .imm 1 (a_ranked.map (encLLInt .imm))]] [] = some (.bool (sppB (⟨a_ranked⟩ : Spp)), []) := by
  rw [evFL_at fn14 (by simp)]
  cases hn : inR (a_ranked.length : Int) 1 5
  · simp -implicitDefEqProofs [c14, r14_0, r14_1, r14_2, r14_3, r14_4, r14_5, r14_6, r14_7, r14_8, r14_9, r14_10, r14_11, r14_12, r14_13, r14_14, r14_15, ha0, ha1, call47, callz47, e47, call48, callz48, e48, call49, callz49, e49, -List.getElem?_map, -getElem?_pos, -Int.pred_toNat, List.getElem?_cons_zero, map_get, -List.map_take, -List.map_drop, take_map, drop_map, upd_ne, frOf_set, frOf_get, frOf_getD, encInt, encLInt, encLLInt, hn, sppB]
  simp -implicitDefEqProofs [c14, r14_0, r14_1, r14_2, r14_3, r14_4, r14_5, r14_6, r14_7, r14_8, r14_9, r14_10, r14_11, r14_12, r14_13, r14_14, r14_15, ha0, ha1, call47, callz47, e47, call48, callz48, e48, call49, callz49, e49, -List.getElem?_map, -getElem?_pos, -Int.pred_toNat, List.getElem?_cons_zero, map_get, -List.map_take, -List.map_drop, take_map, drop_map, upd_ne, frOf_set, frOf_get, frOf_getD, encInt, encLInt, encLLInt, hn]
  generalize hr : evCL T 0 (.loop l14_1) _ _ = r
  have h : R14_1 a_ranked  r := by rw [← hr]; exact L14_1 a_ranked ha0 ha1  (0) _ _ (by omega) ⟨_, rfl, (by simp [upd, *]), (by simp [upd, *]), (by simp [upd, *]), (by simp [upd, *]), rfl, by first | trivial | assumption | simp⟩
  clear hr
  rcases h with h | h
  · obtain ⟨f1, rfl, u1_2, hf1⟩ := h
    simp -implicitDefEqProofs [r14_0, r14_1, r14_2, r14_3, r14_4, r14_5, r14_6, r14_7, r14_8, r14_9, r14_10, r14_11, r14_12, r14_13, r14_14, r14_15, ha0, ha1, call47, callz47, e47, call48, callz48, e48, call49, callz49, e49, -List.getElem?_map, -getElem?_pos, -Int.pred_toNat, List.getElem?_cons_zero, map_get, -List.map_take, -List.map_drop, take_map, drop_map, upd_ne, frOf_set, frOf_get, frOf_getD, encInt, encLInt, encLLInt, u1_2, hf1, sppB]
  obtain ⟨f1, rfl, hf1⟩ := h
  simp -implicitDefEqProofs [r14_0, r14_1, r14_2, r14_3, r14_4, r14_5, r14_6, r14_7, r14_8, r14_9, r14_10, r14_11, r14_12, r14_13, r14_14, r14_15, ha0, ha1, call47, callz47, e47, call48, callz48, e48, call49, callz49, e49, -List.getElem?_map, -getElem?_pos, -Int.pred_toNat, List.getElem?_cons_zero, map_get, -List.map_take, -List.map_drop, take_map, drop_map, upd_ne, frOf_set, frOf_get, frOf_getD, encInt, encLInt, encLLInt, hf1, sppB, hn]
def chosenB (rk : List (List (List Int))) (c : List Int) : Bool := decide (c.length = rk.length) && allB c.length fun i => inR (nth c i) (-1) (((nth rk i).length : Int) - 1)
def availB (rk : List (List (List Int))) (c : List Int) (p : List Int) : Bool := decide (p.length = 2) || (decide (0 ≤ nth c (nth p 1 - 1).toNat) && decide (nth (nth rk (nth p 1 - 1).toNat) (nth c (nth p 1 - 1).toNat).toNat = p.drop 1))
def bestOf (rk : List (List (List Int))) (c : List Int) (node : Int) : Int := idxF (availB rk c) (nth rk (node - 1).toNat)
def stableB (rk : List (List (List Int))) (c : List Int) : Bool := allB c.length fun i => decide (bestOf rk c ((i : Int) + 1) = nth c i)
theorem spp_way {s : Spp} (h : sppB s = true) {k i : Nat} (hk : k < s.ranked.length) (hi : i < (nth s.ranked k).length) : isWayB s.ranked ((k : Int) + 1) (nth (nth s.ranked k) i) = true := by
  simp only [sppB, Bool.and_eq_true] at h
  have h1 := allB_iff.1 h.2 k hk
  simp only [ranksP, Bool.and_eq_true] at h1
  have h2 := allB_iff.1 h1.2 i hi
  simp only [rankP, Bool.and_eq_true] at h2
  exact h2.1
theorem spp_five {s : Spp} (h : sppB s = true) : s.ranked.length ≤ 5 := by
  simp only [sppB, Bool.and_eq_true, inR, decide_eq_true_eq] at h; omega
theorem way_facts {rk : List (List (List Int))} {node : Int} {p : List Int} (h : isWayB rk node p = true) : 2 ≤ p.length ∧ (p.length ≠ 2 → 1 ≤ nth p 1 ∧ nth p 1 ≤ (rk.length : Int)) := by
  simp only [isWayB, Bool.and_eq_true, decide_eq_true_eq] at h
  exact ⟨h.1.1.1.1, fun h2 => way_one h.1.2 (by omega)⟩
theorem chosen_lt {rk : List (List (List Int))} {c : List Int} (h : chosenB rk c = true) : c.length = rk.length ∧ ∀ i, i < c.length → -1 ≤ nth c i ∧ nth c i < ((nth rk i).length : Int) := by
  simp only [chosenB, Bool.and_eq_true, decide_eq_true_eq] at h
  refine ⟨h.1, fun i hi => ?_⟩
  have := allB_iff.1 h.2 i hi
  simp only [inR, Bool.and_eq_true, decide_eq_true_eq] at this
  omega
theorem chosen_of {rk : List (List (List Int))} {c : List Int} (h1 : c.length = rk.length) (h2 : allB c.length (fun i => inR (nth c i) (-1) (((nth rk i).length : Int) - 1)) = true) : chosenB rk c = true := by
  simp [chosenB, h1]; rw [← h1]; exact h2
-- spec.l10Chosen
@[simp] theorem call57 {m : Nat} (args : List AV) (S : St) : evCall T m (evFL T) 57 args S = lendC (evFL T 57) S (lendAll S i57.pes args) := evCall0 fn57 rfl rfl args S
@[simp] theorem callz57 (args : List AV) (S : St) : evCallFz T (evFL T) 57 args S = lendZ (evFL T 57) S i57.res (lendAll S i57.pes args) := evCallFz0 fn57 rfl rfl args S
@[simp] theorem pes57 : i57.pes = [[1], [1]] := rfl
@[simp] theorem body57 : i57.body = c57 := rfl
@[simp] theorem kind57 : i57.kind = 0 := rfl
@[simp] theorem tree57 : i57.tree = false := rfl
@[simp] theorem ntmps57 : i57.ntmps = 33 := rfl
@[simp] theorem results57 : i57.results = [(ResultVar.tmp 4)] := rfl
@[simp] theorem res57 : i57.res = [[0]] := rfl
def I57_0 (a_ranked : (List (List (List Int)))) (c : (List Int))  (i : Nat) (fr : Fr) (S : St) : Prop := ∃ f : Nat → AV, fr = frOf 33 f ∧ f 2 = .ptr 0 0 0 ∧ f 13 = .ts .imm 1 (c.map encInt) ∧ f 14 = .int .i64 a_ranked.length ∧ f 15 = .int .i64 i ∧ S = [some ⟨.box, 1, [[.ts .imm 1 (a_ranked.map (encLLInt .imm))]]⟩] ∧ allB i (fun i => inR (nth c i) (-1) (((nth a_ranked i).length : Int) - 1)) = true
def R57_0 (a_ranked : (List (List (List Int)))) (c : (List Int))  (r : Option (Ex × Fr × St)) : Prop := (∃ f : Nat → AV, r = some (.ret, frOf 33 f, [some ⟨.box, 1, [[.ts .imm 1 (a_ranked.map (encLLInt .imm))]]⟩]) ∧ f 4 = .bool false ∧ chosenB a_ranked c = false) ∨ (∃ f : Nat → AV, r = some (.exit 0, frOf 33 f, [some ⟨.box, 1, [[.ts .imm 1 (a_ranked.map (encLLInt .imm))]]⟩]) ∧ chosenB a_ranked c = true)
theorem L57_0 (a_ranked : (List (List (List Int)))) (c : (List Int)) (ha0 : a_ranked.length ≤ 1048576) (ha1 : smsLLInt a_ranked) (h0 : c.length ≤ 1048576)  (hl : c.length = a_ranked.length) : ∀ i fr S, i ≤ a_ranked.length → I57_0 a_ranked c  i fr S → R57_0 a_ranked c  (evCL T 0 (.loop l57_0) fr S) := by
  refine loopQ _ _ _ ?_ ?_
  · rintro i fr S hi ⟨f, rfl, t2, t13, t14, t15, rfl, hf⟩
    have hwi : IntKind.i64.wrap ((i : Int) + 1) = (i : Int) + 1 := wrap64 (by omega) (by omega)
    have hic : i < c.length := by omega
    have hia : i < a_ranked.length := by omega
    have hib : (i : Int) < (a_ranked.length : Int) := by omega
    by_cases ht1 : nth c i < -1
    · simp -implicitDefEqProofs [r57_0, r57_1, r57_2, r57_3, r57_4, r57_5, r57_6, r57_7, r57_8, r57_9, l57_0, ha0, ha1, h0, -List.getElem?_map, -getElem?_pos, -Int.pred_toNat, List.getElem?_cons_zero, map_get, -List.map_take, -List.map_drop, take_map, drop_map, upd_ne, frOf_set, frOf_get, frOf_getD, encInt, encLLInt, t2, t13, t14, t15, hi, hic, hwi, hia, hib, ht1]
      refine .ret _ _ (Or.inl ⟨_, rfl, (by first | rfl | assumption | simp [upd, *]), ?_⟩); rw [← Bool.not_eq_true]; intro h9; have h8 := (chosen_lt h9).2 i hic; omega
    · by_cases ht2 : ((nth a_ranked i).length : Int) ≤ nth c i
      · simp -implicitDefEqProofs [r57_0, r57_1, r57_2, r57_3, r57_4, r57_5, r57_6, r57_7, r57_8, r57_9, l57_0, ha0, ha1, h0, -List.getElem?_map, -getElem?_pos, -Int.pred_toNat, List.getElem?_cons_zero, map_get, -List.map_take, -List.map_drop, take_map, drop_map, upd_ne, frOf_set, frOf_get, frOf_getD, encInt, encLLInt, t2, t13, t14, t15, hi, hic, hwi, hia, hib, ht1, ht2]
        refine .ret _ _ (Or.inl ⟨_, rfl, (by first | rfl | assumption | simp [upd, *]), ?_⟩); rw [← Bool.not_eq_true]; intro h9; have h8 := (chosen_lt h9).2 i hic; omega
      · simp -implicitDefEqProofs [r57_0, r57_1, r57_2, r57_3, r57_4, r57_5, r57_6, r57_7, r57_8, r57_9, l57_0, ha0, ha1, h0, -List.getElem?_map, -getElem?_pos, -Int.pred_toNat, List.getElem?_cons_zero, map_get, -List.map_take, -List.map_drop, take_map, drop_map, upd_ne, frOf_set, frOf_get, frOf_getD, encInt, encLLInt, t2, t13, t14, t15, hi, hic, hwi, hia, hib, ht1, ht2]
        refine .go _ _ ⟨_, rfl, (by first | rfl | assumption | simp [upd, *]), (by first | rfl | assumption | simp [upd, *]), (by first | rfl | assumption | simp [upd, *]), (by first | rfl | assumption | simp [upd, *]), rfl, ?_⟩; rw [allB_succ, hf]; simp [inR]; omega
  · rintro fr S ⟨f, rfl, t2, t13, t14, t15, rfl, hf⟩
    simp -implicitDefEqProofs [r57_0, r57_1, r57_2, r57_3, r57_4, r57_5, r57_6, r57_7, r57_8, r57_9, l57_0, ha0, ha1, h0, -List.getElem?_map, -getElem?_pos, -Int.pred_toNat, List.getElem?_cons_zero, map_get, -List.map_take, -List.map_drop, take_map, drop_map, upd_ne, frOf_set, frOf_get, frOf_getD, encInt, encLLInt, t2, t13, t14, t15]
    refine .exit _ _ _ (Or.inr ⟨_, rfl, ?_⟩)
    exact chosen_of hl (by rw [hl]; exact hf)
theorem e57 (a_ranked : (List (List (List Int)))) (c : (List Int)) (ha0 : a_ranked.length ≤ 1048576) (ha1 : smsLLInt a_ranked) (h0 : c.length ≤ 1048576) : evFL T 57 [.agg [.ts .imm 1 (a_ranked.map (encLLInt .imm))], .ts .imm 1 (c.map encInt)] [] = some (.bool (chosenB a_ranked c), []) := by
  rw [evFL_at fn57 (by simp)]
  by_cases hl : c.length ≠ a_ranked.length
  · have hl2 : ¬ (c.length : Int) = (a_ranked.length : Int) := by omega
    simp -implicitDefEqProofs [c57, r57_0, r57_1, r57_2, r57_3, r57_4, r57_5, r57_6, r57_7, r57_8, r57_9, ha0, ha1, h0, -List.getElem?_map, -getElem?_pos, -Int.pred_toNat, List.getElem?_cons_zero, map_get, -List.map_take, -List.map_drop, take_map, drop_map, upd_ne, frOf_set, frOf_get, frOf_getD, encInt, encLLInt, hl, hl2, chosenB]
  replace hl : c.length = a_ranked.length := by omega
  simp -implicitDefEqProofs [c57, r57_0, r57_1, r57_2, r57_3, r57_4, r57_5, r57_6, r57_7, r57_8, r57_9, ha0, ha1, h0, -List.getElem?_map, -getElem?_pos, -Int.pred_toNat, List.getElem?_cons_zero, map_get, -List.map_take, -List.map_drop, take_map, drop_map, upd_ne, frOf_set, frOf_get, frOf_getD, encInt, encLLInt, hl]
  generalize hr : evCL T 0 (.loop l57_0) _ _ = r
  have h : R57_0 a_ranked c  r := by rw [← hr]; exact L57_0 a_ranked c ha0 ha1 h0 hl (0) _ _ (by omega) ⟨_, rfl, (by simp [upd, *]), (by simp [upd, *]), (by simp [upd, *]), (by simp [upd, *]), rfl, by first | trivial | assumption | simp⟩
  clear hr
  rcases h with h | h
  · obtain ⟨f0, rfl, u0_4, hf0⟩ := h
    simp -implicitDefEqProofs [r57_0, r57_1, r57_2, r57_3, r57_4, r57_5, r57_6, r57_7, r57_8, r57_9, ha0, ha1, h0, -List.getElem?_map, -getElem?_pos, -Int.pred_toNat, List.getElem?_cons_zero, map_get, -List.map_take, -List.map_drop, take_map, drop_map, upd_ne, frOf_set, frOf_get, frOf_getD, encInt, encLLInt, u0_4, hf0]
  obtain ⟨f0, rfl, hf0⟩ := h
  simp -implicitDefEqProofs [r57_0, r57_1, r57_2, r57_3, r57_4, r57_5, r57_6, r57_7, r57_8, r57_9, ha0, ha1, h0, -List.getElem?_map, -getElem?_pos, -Int.pred_toNat, List.getElem?_cons_zero, map_get, -List.map_take, -List.map_drop, take_map, drop_map, upd_ne, frOf_set, frOf_get, frOf_getD, encInt, encLLInt, hf0]
-- spec.l10Best
@[simp] theorem call58 {m : Nat} (args : List AV) (S : St) : evCall T m (evFL T) 58 args S = lendC (evFL T 58) S (lendAll S i58.pes args) := evCall0 fn58 rfl rfl args S
@[simp] theorem callz58 (args : List AV) (S : St) : evCallFz T (evFL T) 58 args S = lendZ (evFL T 58) S i58.res (lendAll S i58.pes args) := evCallFz0 fn58 rfl rfl args S
@[simp] theorem pes58 : i58.pes = [[1], [1], [0]] := rfl
@[simp] theorem body58 : i58.body = c58 := rfl
@[simp] theorem kind58 : i58.kind = 0 := rfl
@[simp] theorem tree58 : i58.tree = false := rfl
@[simp] theorem ntmps58 : i58.ntmps = 53 := rfl
@[simp] theorem results58 : i58.results = [(ResultVar.tmp 6)] := rfl
@[simp] theorem res58 : i58.res = [[0]] := rfl
def I58_0 (a_ranked : (List (List (List Int)))) (c : (List Int)) (n : Int)  (i : Nat) (fr : Fr) (S : St) : Prop := ∃ f : Nat → AV, fr = frOf 53 f ∧ f 1 = .ts .imm 1 (c.map encInt) ∧ f 3 = .ptr 0 0 0 ∧ f 15 = .ts .imm 1 ((nth a_ranked (n - 1).toNat).map (encLInt .imm)) ∧ f 16 = .int .i64 (nth a_ranked (n - 1).toNat).length ∧ f 17 = .int .i64 i ∧ S = [some ⟨.box, 1, [[.ts .imm 1 (a_ranked.map (encLLInt .imm))]]⟩] ∧ ∀ j, j < i → availB a_ranked c (nth (nth a_ranked (n - 1).toNat) j) = false
def R58_0 (a_ranked : (List (List (List Int)))) (c : (List Int)) (n : Int)  (r : Option (Ex × Fr × St)) : Prop := (∃ f : Nat → AV, ∃ j : Int, r = some (.ret, frOf 53 f, [some ⟨.box, 1, [[.ts .imm 1 (a_ranked.map (encLLInt .imm))]]⟩]) ∧ f 6 = .int .i64 j ∧ bestOf a_ranked c n = j) ∨ (∃ f : Nat → AV, r = some (.exit 0, frOf 53 f, [some ⟨.box, 1, [[.ts .imm 1 (a_ranked.map (encLLInt .imm))]]⟩]) ∧ bestOf a_ranked c n = -1)
theorem L58_0 (a_ranked : (List (List (List Int)))) (c : (List Int)) (n : Int) (ha0 : a_ranked.length ≤ 1048576) (ha1 : smsLLInt a_ranked) (h0 : c.length ≤ 1048576) (hg : sppB (⟨a_ranked⟩ : Spp) = true) (hcl : c.length = a_ranked.length) (hcb : ∀ i, i < c.length → -1 ≤ nth c i ∧ nth c i < ((nth a_ranked i).length : Int)) (h1 : 1 ≤ n) (h2n : n ≤ (a_ranked.length : Int))   : ∀ i fr S, i ≤ (nth a_ranked (n - 1).toNat).length → I58_0 a_ranked c n  i fr S → R58_0 a_ranked c n  (evCL T 0 (.loop l58_0) fr S) := by
  refine loopQ _ _ _ ?_ ?_
  · rintro i fr S hi ⟨f, rfl, t1, t3, t15, t16, t17, rfl, hf⟩
    have hk : (n - 1).toNat < a_ranked.length := by omega
    have hzz : 0 ≤ n - 1 := by omega
    have hzz2 : n - 1 < (a_ranked.length : Int) := by omega
    have hwnn : IntKind.i64.wrap (n - 1) = n - 1 := wrap64 (by omega) (by omega)
    obtain ⟨hr0, hr1⟩ := ha1 _ (nth_mem hk)
    have hwi : IntKind.i64.wrap ((i : Int) + 1) = (i : Int) + 1 := wrap64 (by omega) (by omega)
    have hq := hr1 (nth (nth a_ranked (n - 1).toNat) i) (nth_mem hi)
    simp only [smLInt] at hq
    have hway := spp_way hg (k := (n - 1).toNat) hk hi
    have hfacts := way_facts hway
    dsimp only at hfacts
    obtain ⟨hp2, hone⟩ := hfacts
    by_cases h2 : (nth (nth a_ranked (n - 1).toNat) i).length = 2
    · have h2i : ((nth (nth a_ranked (n - 1).toNat) i).length : Int) = 2 := by omega
      have hav : availB a_ranked c (nth (nth a_ranked (n - 1).toNat) i) = true := by simp only [availB, h2, decide_true, Bool.true_or]
      simp -implicitDefEqProofs [r58_0, r58_1, r58_2, r58_3, r58_4, r58_5, r58_6, r58_7, r58_8, r58_9, r58_10, l58_0, ha0, ha1, h0, hg, hcl, hcb, h1, h2n, call79, callz79, e79, -List.getElem?_map, -getElem?_pos, -Int.pred_toNat, List.getElem?_cons_zero, map_get, -List.map_take, -List.map_drop, take_map, drop_map, upd_ne, frOf_set, frOf_get, frOf_getD, encInt, encLInt, encLLInt, -List.drop_one, t1, t3, t15, t16, t17, h2i, hav, hi, hwi, hq]
      refine .ret _ _ (Or.inl ⟨_, _, rfl, (by first | rfl | assumption | simp [upd, *]), ?_⟩); exact idxF_hit hi hf hav
    obtain ⟨ho1, ho2⟩ := hone h2
    have h2i : ¬ ((nth (nth a_ranked (n - 1).toNat) i).length : Int) = 2 := by omega
    have hc1 : 1 < (nth (nth a_ranked (n - 1).toNat) i).length := by omega
    have hc2 : (1 : Int) ≤ ((nth (nth a_ranked (n - 1).toNat) i).length : Int) := by omega
    have hc3 : (1 : Int) < ((nth (nth a_ranked (n - 1).toNat) i).length : Int) := by omega
    have hQ : (nth (nth (nth a_ranked (n - 1).toNat) i) 1 - 1).toNat < a_ranked.length := by omega
    have hQc : (nth (nth (nth a_ranked (n - 1).toNat) i) 1 - 1).toNat < c.length := by omega
    have hz1 : 0 ≤ nth (nth (nth a_ranked (n - 1).toNat) i) 1 - 1 := by omega
    have hz4 : 1 ≤ nth (nth (nth a_ranked (n - 1).toNat) i) 1 := by omega
    have hz2 : nth (nth (nth a_ranked (n - 1).toNat) i) 1 - 1 < (a_ranked.length : Int) := by omega
    have hz3 : nth (nth (nth a_ranked (n - 1).toNat) i) 1 - 1 < (c.length : Int) := by omega
    have hwn : IntKind.i64.wrap (nth (nth (nth a_ranked (n - 1).toNat) i) 1 - 1) = nth (nth (nth a_ranked (n - 1).toNat) i) 1 - 1 := wrap64 (by omega) (by omega)
    have hz5 : nth (nth (nth a_ranked (n - 1).toNat) i) 1 ≤ (c.length : Int) := by omega
    have hcb := hcb (nth (nth (nth a_ranked (n - 1).toNat) i) 1 - 1).toNat hQc
    by_cases hv : 0 ≤ (nth c (nth (nth (nth a_ranked (n - 1).toNat) i) 1 - 1).toNat)
    · obtain ⟨hs0, hs1⟩ := ha1 _ (nth_mem hQ)
      have hvl : (nth c (nth (nth (nth a_ranked (n - 1).toNat) i) 1 - 1).toNat).toNat < (nth a_ranked (nth (nth (nth a_ranked (n - 1).toNat) i) 1 - 1).toNat).length := by omega
      have hsm := hs1 _ (nth_mem hvl)
      simp only [smLInt] at hsm
      have hvb : (nth c (nth (nth (nth a_ranked (n - 1).toNat) i) 1 - 1).toNat) < ((nth a_ranked (nth (nth (nth a_ranked (n - 1).toNat) i) 1 - 1).toNat).length : Int) := hcb.2
      have e1 := e79 (nth (nth a_ranked (nth (nth (nth a_ranked (n - 1).toNat) i) 1 - 1).toNat) (nth c (nth (nth (nth a_ranked (n - 1).toNat) i) 1 - 1).toNat).toNat) ((nth (nth a_ranked (n - 1).toNat) i).drop 1) hsm (by rw [List.length_drop]; omega)
      by_cases he : nth (nth a_ranked (nth (nth (nth a_ranked (n - 1).toNat) i) 1 - 1).toNat) (nth c (nth (nth (nth a_ranked (n - 1).toNat) i) 1 - 1).toNat).toNat = (nth (nth a_ranked (n - 1).toNat) i).drop 1
      · have hav : availB a_ranked c (nth (nth a_ranked (n - 1).toNat) i) = true := by simp only [availB, h2, hv, he, decide_true, decide_false, Bool.and_self, Bool.or_true]
        rw [decide_eq_true he] at e1
        simp -implicitDefEqProofs [r58_0, r58_1, r58_2, r58_3, r58_4, r58_5, r58_6, r58_7, r58_8, r58_9, r58_10, l58_0, ha0, ha1, h0, hg, hcl, hcb, h1, h2n, call79, callz79, e79, -List.getElem?_map, -getElem?_pos, -Int.pred_toNat, List.getElem?_cons_zero, map_get, -List.map_take, -List.map_drop, take_map, drop_map, upd_ne, frOf_set, frOf_get, frOf_getD, encInt, encLInt, encLLInt, -List.drop_one, t1, t3, t15, t16, t17, h2i, hc1, hc2, hc3, hQ, hQc, hz1, hz2, hz3, hz4, hz5, ho2, hwn, hv, hvl, hvb, e1, hav, hi, hwi, hq]
        refine .ret _ _ (Or.inl ⟨_, _, rfl, (by first | rfl | assumption | simp [upd, *]), ?_⟩); exact idxF_hit hi hf hav
      · have hav : availB a_ranked c (nth (nth a_ranked (n - 1).toNat) i) = false := by simp only [availB, h2, hv, he, decide_true, decide_false, Bool.and_false, Bool.or_false]
        rw [decide_eq_false he] at e1
        simp -implicitDefEqProofs [r58_0, r58_1, r58_2, r58_3, r58_4, r58_5, r58_6, r58_7, r58_8, r58_9, r58_10, l58_0, ha0, ha1, h0, hg, hcl, hcb, h1, h2n, call79, callz79, e79, -List.getElem?_map, -getElem?_pos, -Int.pred_toNat, List.getElem?_cons_zero, map_get, -List.map_take, -List.map_drop, take_map, drop_map, upd_ne, frOf_set, frOf_get, frOf_getD, encInt, encLInt, encLLInt, -List.drop_one, t1, t3, t15, t16, t17, h2i, hc1, hc2, hc3, hQ, hQc, hz1, hz2, hz3, hz4, hz5, ho2, hwn, hv, hvl, hvb, e1, hav, hi, hwi, hq]
        refine .go _ _ ⟨_, rfl, (by first | rfl | assumption | simp [upd, *]), (by first | rfl | assumption | simp [upd, *]), (by first | rfl | assumption | simp [upd, *]), (by first | rfl | assumption | simp [upd, *]), (by first | rfl | assumption | simp [upd, *]), rfl, ?_⟩; exact none_succ hf hav
    · have hav : availB a_ranked c (nth (nth a_ranked (n - 1).toNat) i) = false := by simp only [availB, h2, hv, decide_false, Bool.false_and, Bool.or_false]
      simp -implicitDefEqProofs [r58_0, r58_1, r58_2, r58_3, r58_4, r58_5, r58_6, r58_7, r58_8, r58_9, r58_10, l58_0, ha0, ha1, h0, hg, hcl, hcb, h1, h2n, call79, callz79, e79, -List.getElem?_map, -getElem?_pos, -Int.pred_toNat, List.getElem?_cons_zero, map_get, -List.map_take, -List.map_drop, take_map, drop_map, upd_ne, frOf_set, frOf_get, frOf_getD, encInt, encLInt, encLLInt, -List.drop_one, t1, t3, t15, t16, t17, h2i, hc1, hc2, hc3, hQ, hQc, hz1, hz2, hz3, hz4, hz5, ho2, hwn, hv, hav, hi, hwi, hq]
      refine .go _ _ ⟨_, rfl, (by first | rfl | assumption | simp [upd, *]), (by first | rfl | assumption | simp [upd, *]), (by first | rfl | assumption | simp [upd, *]), (by first | rfl | assumption | simp [upd, *]), (by first | rfl | assumption | simp [upd, *]), rfl, ?_⟩; exact none_succ hf hav
  · rintro fr S ⟨f, rfl, t1, t3, t15, t16, t17, rfl, hf⟩
    have hk : (n - 1).toNat < a_ranked.length := by omega
    have hzz : 0 ≤ n - 1 := by omega
    have hzz2 : n - 1 < (a_ranked.length : Int) := by omega
    have hwnn : IntKind.i64.wrap (n - 1) = n - 1 := wrap64 (by omega) (by omega)
    obtain ⟨hr0, hr1⟩ := ha1 _ (nth_mem hk)
    simp -implicitDefEqProofs [r58_0, r58_1, r58_2, r58_3, r58_4, r58_5, r58_6, r58_7, r58_8, r58_9, r58_10, l58_0, ha0, ha1, h0, hg, hcl, hcb, h1, h2n, call79, callz79, e79, -List.getElem?_map, -getElem?_pos, -Int.pred_toNat, List.getElem?_cons_zero, map_get, -List.map_take, -List.map_drop, take_map, drop_map, upd_ne, frOf_set, frOf_get, frOf_getD, encInt, encLInt, encLLInt, -List.drop_one, t1, t3, t15, t16, t17]
    refine .exit _ _ _ (Or.inr ⟨_, rfl, ?_⟩)
    exact idxF_miss hf
theorem e58 (a_ranked : (List (List (List Int)))) (c : (List Int)) (n : Int) (ha0 : a_ranked.length ≤ 1048576) (ha1 : smsLLInt a_ranked) (h0 : c.length ≤ 1048576) (hg : sppB (⟨a_ranked⟩ : Spp) = true) (hcl : c.length = a_ranked.length) (hcb : ∀ i, i < c.length → -1 ≤ nth c i ∧ nth c i < ((nth a_ranked i).length : Int)) (h1 : 1 ≤ n) (h2n : n ≤ (a_ranked.length : Int)) : evFL T 58 [.agg [.ts .imm 1 (a_ranked.map (encLLInt .imm))], .ts .imm 1 (c.map encInt), .int .i64 n] [] = some (.int .i64 (bestOf a_ranked c n), []) := by
  rw [evFL_at fn58 (by simp)]
  have hk : (n - 1).toNat < a_ranked.length := by omega
  have hzz : 0 ≤ n - 1 := by omega
  have hzz2 : n - 1 < (a_ranked.length : Int) := by omega
  have hwnn : IntKind.i64.wrap (n - 1) = n - 1 := wrap64 (by omega) (by omega)
  obtain ⟨hr0, hr1⟩ := ha1 _ (nth_mem hk)
  simp -implicitDefEqProofs [c58, r58_0, r58_1, r58_2, r58_3, r58_4, r58_5, r58_6, r58_7, r58_8, r58_9, r58_10, ha0, ha1, h0, hg, hcl, hcb, h1, h2n, call79, callz79, e79, -List.getElem?_map, -getElem?_pos, -Int.pred_toNat, List.getElem?_cons_zero, map_get, -List.map_take, -List.map_drop, take_map, drop_map, upd_ne, frOf_set, frOf_get, frOf_getD, encInt, encLInt, encLLInt, -List.drop_one, hk, hzz, hzz2, hwnn]
  generalize hr : evCL T 0 (.loop l58_0) _ _ = r
  have h : R58_0 a_ranked c n  r := by rw [← hr]; exact L58_0 a_ranked c n ha0 ha1 h0 hg hcl hcb h1 h2n  (0) _ _ (by omega) ⟨_, rfl, (by simp [upd, *]), (by simp [upd, *]), (by simp [upd, *]), (by simp [upd, *]), (by simp [upd, *]), rfl, by simp⟩
  clear hr
  rcases h with h | h
  · obtain ⟨f0, j, rfl, u0_6, hf0⟩ := h
    simp -implicitDefEqProofs [r58_0, r58_1, r58_2, r58_3, r58_4, r58_5, r58_6, r58_7, r58_8, r58_9, r58_10, ha0, ha1, h0, hg, hcl, hcb, h1, h2n, call79, callz79, e79, -List.getElem?_map, -getElem?_pos, -Int.pred_toNat, List.getElem?_cons_zero, map_get, -List.map_take, -List.map_drop, take_map, drop_map, upd_ne, frOf_set, frOf_get, frOf_getD, encInt, encLInt, encLLInt, -List.drop_one, u0_6, hf0] <;> try omega
  obtain ⟨f0, rfl, hf0⟩ := h
  simp -implicitDefEqProofs [r58_0, r58_1, r58_2, r58_3, r58_4, r58_5, r58_6, r58_7, r58_8, r58_9, r58_10, ha0, ha1, h0, hg, hcl, hcb, h1, h2n, call79, callz79, e79, -List.getElem?_map, -getElem?_pos, -Int.pred_toNat, List.getElem?_cons_zero, map_get, -List.map_take, -List.map_drop, take_map, drop_map, upd_ne, frOf_set, frOf_get, frOf_getD, encInt, encLInt, encLLInt, -List.drop_one, hf0] <;> try omega
-- spec.l10Stable
@[simp] theorem call61 {m : Nat} (args : List AV) (S : St) : evCall T m (evFL T) 61 args S = lendC (evFL T 61) S (lendAll S i61.pes args) := evCall0 fn61 rfl rfl args S
@[simp] theorem callz61 (args : List AV) (S : St) : evCallFz T (evFL T) 61 args S = lendZ (evFL T 61) S i61.res (lendAll S i61.pes args) := evCallFz0 fn61 rfl rfl args S
@[simp] theorem pes61 : i61.pes = [[1], [1]] := rfl
@[simp] theorem body61 : i61.body = c61 := rfl
@[simp] theorem kind61 : i61.kind = 0 := rfl
@[simp] theorem tree61 : i61.tree = false := rfl
@[simp] theorem ntmps61 : i61.ntmps = 22 := rfl
@[simp] theorem results61 : i61.results = [(ResultVar.tmp 4)] := rfl
@[simp] theorem res61 : i61.res = [[0]] := rfl
def I61_0 (a_ranked : (List (List (List Int)))) (c : (List Int))  (i : Nat) (fr : Fr) (S : St) : Prop := ∃ f : Nat → AV, fr = frOf 22 f ∧ f 1 = .ts .imm 1 (c.map encInt) ∧ f 2 = .ptr 0 0 0 ∧ f 7 = .ts .imm 1 (c.map encInt) ∧ f 8 = .int .i64 c.length ∧ f 9 = .int .i64 i ∧ S = [some ⟨.box, 1, [[.ts .imm 1 (a_ranked.map (encLLInt .imm))]]⟩] ∧ allB i (fun i => decide (bestOf a_ranked c ((i : Int) + 1) = nth c i)) = true
def R61_0 (a_ranked : (List (List (List Int)))) (c : (List Int))  (r : Option (Ex × Fr × St)) : Prop := (∃ f : Nat → AV, r = some (.ret, frOf 22 f, [some ⟨.box, 1, [[.ts .imm 1 (a_ranked.map (encLLInt .imm))]]⟩]) ∧ f 4 = .bool false ∧ stableB a_ranked c = false) ∨ (∃ f : Nat → AV, r = some (.exit 0, frOf 22 f, [some ⟨.box, 1, [[.ts .imm 1 (a_ranked.map (encLLInt .imm))]]⟩]) ∧ stableB a_ranked c = true)
theorem L61_0 (a_ranked : (List (List (List Int)))) (c : (List Int)) (ha0 : a_ranked.length ≤ 1048576) (ha1 : smsLLInt a_ranked) (h0 : c.length ≤ 1048576) (hg : sppB (⟨a_ranked⟩ : Spp) = true) (hcl : c.length = a_ranked.length) (hcb : ∀ i, i < c.length → -1 ≤ nth c i ∧ nth c i < ((nth a_ranked i).length : Int))   : ∀ i fr S, i ≤ c.length → I61_0 a_ranked c  i fr S → R61_0 a_ranked c  (evCL T 0 (.loop l61_0) fr S) := by
  refine loopQ _ _ _ ?_ ?_
  · rintro i fr S hi ⟨f, rfl, t1, t2, t7, t8, t9, rfl, hf⟩
    have hwi : IntKind.i64.wrap ((i : Int) + 1) = (i : Int) + 1 := wrap64 (by omega) (by omega)
    have hia : i < a_ranked.length := by omega
    have eb := e58 a_ranked c ((i : Int) + 1) ha0 ha1 h0 hg hcl hcb (by omega) (by omega)
    by_cases hc : bestOf a_ranked c ((i : Int) + 1) = nth c i
    · simp -implicitDefEqProofs [r61_0, r61_1, r61_2, r61_3, r61_4, r61_5, r61_6, r61_7, l61_0, ha0, ha1, h0, hg, hcl, hcb, call58, callz58, e58, -List.getElem?_map, -getElem?_pos, -Int.pred_toNat, List.getElem?_cons_zero, map_get, -List.map_take, -List.map_drop, take_map, drop_map, upd_ne, frOf_set, frOf_get, frOf_getD, encInt, encLLInt, t1, t2, t7, t8, t9, hi, hia, hwi, eb, hc]
      refine .go _ _ ⟨_, rfl, (by first | rfl | assumption | simp [upd, *]), (by first | rfl | assumption | simp [upd, *]), (by first | rfl | assumption | simp [upd, *]), (by first | rfl | assumption | simp [upd, *]), (by first | rfl | assumption | simp [upd, *]), rfl, ?_⟩; rw [allB_succ, hf]; simp [hc]
    · simp -implicitDefEqProofs [r61_0, r61_1, r61_2, r61_3, r61_4, r61_5, r61_6, r61_7, l61_0, ha0, ha1, h0, hg, hcl, hcb, call58, callz58, e58, -List.getElem?_map, -getElem?_pos, -Int.pred_toNat, List.getElem?_cons_zero, map_get, -List.map_take, -List.map_drop, take_map, drop_map, upd_ne, frOf_set, frOf_get, frOf_getD, encInt, encLLInt, t1, t2, t7, t8, t9, hi, hia, hwi, eb, hc]
      refine .ret _ _ (Or.inl ⟨_, rfl, (by first | rfl | assumption | simp [upd, *]), ?_⟩); exact allB_no hi (by simp [hc])
  · rintro fr S ⟨f, rfl, t1, t2, t7, t8, t9, rfl, hf⟩
    simp -implicitDefEqProofs [r61_0, r61_1, r61_2, r61_3, r61_4, r61_5, r61_6, r61_7, l61_0, ha0, ha1, h0, hg, hcl, hcb, call58, callz58, e58, -List.getElem?_map, -getElem?_pos, -Int.pred_toNat, List.getElem?_cons_zero, map_get, -List.map_take, -List.map_drop, take_map, drop_map, upd_ne, frOf_set, frOf_get, frOf_getD, encInt, encLLInt, t1, t2, t7, t8, t9]
    refine .exit _ _ _ (Or.inr ⟨_, rfl, ?_⟩)
    first | trivial | assumption | simp [*]
theorem e61 (a_ranked : (List (List (List Int)))) (c : (List Int)) (ha0 : a_ranked.length ≤ 1048576) (ha1 : smsLLInt a_ranked) (h0 : c.length ≤ 1048576) (hg : sppB (⟨a_ranked⟩ : Spp) = true) (hcl : c.length = a_ranked.length) (hcb : ∀ i, i < c.length → -1 ≤ nth c i ∧ nth c i < ((nth a_ranked i).length : Int)) : evFL T 61 [.agg [.ts .imm 1 (a_ranked.map (encLLInt .imm))], .ts .imm 1 (c.map encInt)] [] = some (.bool (stableB a_ranked c), []) := by
  rw [evFL_at fn61 (by simp)]
  simp -implicitDefEqProofs [c61, r61_0, r61_1, r61_2, r61_3, r61_4, r61_5, r61_6, r61_7, ha0, ha1, h0, hg, hcl, hcb, call58, callz58, e58, -List.getElem?_map, -getElem?_pos, -Int.pred_toNat, List.getElem?_cons_zero, map_get, -List.map_take, -List.map_drop, take_map, drop_map, upd_ne, frOf_set, frOf_get, frOf_getD, encInt, encLLInt]
  generalize hr : evCL T 0 (.loop l61_0) _ _ = r
  have h : R61_0 a_ranked c  r := by rw [← hr]; exact L61_0 a_ranked c ha0 ha1 h0 hg hcl hcb  (0) _ _ (by omega) ⟨_, rfl, (by simp [upd, *]), (by simp [upd, *]), (by simp [upd, *]), (by simp [upd, *]), (by simp [upd, *]), rfl, by first | trivial | assumption | simp⟩
  clear hr
  rcases h with h | h
  · obtain ⟨f0, rfl, u0_4, hf0⟩ := h
    simp -implicitDefEqProofs [r61_0, r61_1, r61_2, r61_3, r61_4, r61_5, r61_6, r61_7, ha0, ha1, h0, hg, hcl, hcb, call58, callz58, e58, -List.getElem?_map, -getElem?_pos, -Int.pred_toNat, List.getElem?_cons_zero, map_get, -List.map_take, -List.map_drop, take_map, drop_map, upd_ne, frOf_set, frOf_get, frOf_getD, encInt, encLLInt, u0_4, hf0] <;> try omega
  obtain ⟨f0, rfl, hf0⟩ := h
  simp -implicitDefEqProofs [r61_0, r61_1, r61_2, r61_3, r61_4, r61_5, r61_6, r61_7, ha0, ha1, h0, hg, hcl, hcb, call58, callz58, e58, -List.getElem?_map, -getElem?_pos, -Int.pred_toNat, List.getElem?_cons_zero, map_get, -List.map_take, -List.map_drop, take_map, drop_map, upd_ne, frOf_set, frOf_get, frOf_getD, encInt, encLLInt, hf0] <;> try omega
-- spec.IsStable
@[simp] theorem call22 {m : Nat} (args : List AV) (S : St) : evCall T m (evFL T) 22 args S = lendC (evFL T 22) S (lendAll S i22.pes args) := evCall0 fn22 rfl rfl args S
@[simp] theorem callz22 (args : List AV) (S : St) : evCallFz T (evFL T) 22 args S = lendZ (evFL T 22) S i22.res (lendAll S i22.pes args) := evCallFz0 fn22 rfl rfl args S
@[simp] theorem pes22 : i22.pes = [[1], [1]] := rfl
@[simp] theorem body22 : i22.body = c22 := rfl
@[simp] theorem kind22 : i22.kind = 0 := rfl
@[simp] theorem tree22 : i22.tree = false := rfl
@[simp] theorem ntmps22 : i22.ntmps = 18 := rfl
@[simp] theorem results22 : i22.results = [(ResultVar.tmp 4), (ResultVar.tmp 5)] := rfl
@[simp] theorem res22 : i22.res = [[0], [0]] := rfl
theorem e22 (a_ranked : (List (List (List Int)))) (c : (List Int)) (ha0 : a_ranked.length ≤ 1048576) (ha1 : smsLLInt a_ranked) (h0 : c.length ≤ 1048576) : evFL T 22 [.agg [.ts .imm 1 (a_ranked.map (encLLInt .imm))], .ts .imm 1 (c.map encInt)] [] = some (.tup [.bool (sppB (⟨a_ranked⟩ : Spp) && (chosenB a_ranked c && stableB a_ranked c)), .bool (sppB (⟨a_ranked⟩ : Spp) && chosenB a_ranked c)], []) := by
  rw [evFL_at fn22 (by simp)]
  by_cases ht1 : sppB (⟨a_ranked⟩ : Spp) = true
  · by_cases ht2 : chosenB a_ranked c = true
    · obtain ⟨hcl, hcb⟩ := chosen_lt ht2
      try dsimp only at hcl hcb
      have eb := e61 a_ranked c ha0 ha1 h0 ht1 hcl hcb
      simp -implicitDefEqProofs [c22, r22_0, r22_1, r22_2, r22_3, ha0, ha1, h0, call14, callz14, e14, call57, callz57, e57, call61, callz61, e61, -List.getElem?_map, -getElem?_pos, -Int.pred_toNat, List.getElem?_cons_zero, map_get, -List.map_take, -List.map_drop, take_map, drop_map, upd_ne, frOf_set, frOf_get, frOf_getD, encLLInt, eb, ht1, ht2]
    · simp -implicitDefEqProofs [c22, r22_0, r22_1, r22_2, r22_3, ha0, ha1, h0, call14, callz14, e14, call57, callz57, e57, call61, callz61, e61, -List.getElem?_map, -getElem?_pos, -Int.pred_toNat, List.getElem?_cons_zero, map_get, -List.map_take, -List.map_drop, take_map, drop_map, upd_ne, frOf_set, frOf_get, frOf_getD, encLLInt, ht1, ht2]
  · simp -implicitDefEqProofs [c22, r22_0, r22_1, r22_2, r22_3, ha0, ha1, h0, call14, callz14, e14, call57, callz57, e57, call61, callz61, e61, -List.getElem?_map, -getElem?_pos, -Int.pred_toNat, List.getElem?_cons_zero, map_get, -List.map_take, -List.map_drop, take_map, drop_map, upd_ne, frOf_set, frOf_get, frOf_getD, encLLInt, ht1]
-- impl.within
@[simp] theorem call51 {m : Nat} (args : List AV) (S : St) : evCall T m (evFL T) 51 args S = lendC (evFL T 51) S (lendAll S i51.pes args) := evCall0 fn51 rfl rfl args S
@[simp] theorem callz51 (args : List AV) (S : St) : evCallFz T (evFL T) 51 args S = lendZ (evFL T 51) S i51.res (lendAll S i51.pes args) := evCallFz0 fn51 rfl rfl args S
@[simp] theorem pes51 : i51.pes = [[0], [0], [0]] := rfl
@[simp] theorem body51 : i51.body = c51 := rfl
@[simp] theorem kind51 : i51.kind = 0 := rfl
@[simp] theorem tree51 : i51.tree = false := rfl
@[simp] theorem ntmps51 : i51.ntmps = 15 := rfl
@[simp] theorem results51 : i51.results = [(ResultVar.tmp 6)] := rfl
@[simp] theorem res51 : i51.res = [[0]] := rfl
theorem e51 (a : Int) (b : Int) (c : Int)  : evFL T 51 [.int .i64 a, .int .i64 b, .int .i64 c] [] = some (.bool (inR a b c), []) := by
  rw [evFL_at fn51 (by simp)]
  by_cases hc0 : b ≤ a
  all_goals simp -implicitDefEqProofs [c51, r51_0, r51_1, -List.getElem?_map, -getElem?_pos, -Int.pred_toNat, List.getElem?_cons_zero, map_get, -List.map_take, -List.map_drop, take_map, drop_map, upd_ne, frOf_set, frOf_get, frOf_getD, inR, hc0]
-- slices.IndexFunc[[][]int,[]int]
@[simp] theorem call91 {m : Nat} (args : List AV) (S : St) : evCall T m (evFL T) 91 args S = lendC (evFL T 91) S (lendAll S i91.pes args) := evCall0 fn91 rfl rfl args S
@[simp] theorem callz91 (args : List AV) (S : St) : evCallFz T (evFL T) 91 args S = lendZ (evFL T 91) S i91.res (lendAll S i91.pes args) := evCallFz0 fn91 rfl rfl args S
@[simp] theorem pes91 : i91.pes = [[1], [0]] := rfl
@[simp] theorem body91 : i91.body = c91 := rfl
@[simp] theorem kind91 : i91.kind = 0 := rfl
@[simp] theorem tree91 : i91.tree = false := rfl
@[simp] theorem ntmps91 : i91.ntmps = 19 := rfl
@[simp] theorem results91 : i91.results = [(ResultVar.tmp 4)] := rfl
@[simp] theorem res91 : i91.res = [[0]] := rfl
def I91_0 (a : (List (List Int))) (g : Nat) (caps : List AV) (p : (List Int) → Bool)  (i : Nat) (fr : Fr) (S : St) : Prop := ∃ f : Nat → AV, fr = frOf 19 f ∧ f 0 = .ts .imm 1 (a.map (encLInt .imm)) ∧ f 1 = .fn g caps ∧ f 7 = .int .i64 a.length ∧ f 8 = .int .i64 i ∧ S = [] ∧ ∀ j, j < i → p (nth a j) = false
def R91_0 (a : (List (List Int))) (g : Nat) (caps : List AV) (p : (List Int) → Bool)  (r : Option (Ex × Fr × St)) : Prop := (∃ f : Nat → AV, ∃ j : Int, r = some (.ret, frOf 19 f, []) ∧ f 4 = .int .i64 j ∧ idxF p a = j) ∨ (∃ f : Nat → AV, r = some (.exit 0, frOf 19 f, []) ∧ idxF p a = -1)
theorem L91_0 (a : (List (List Int))) (g : Nat) (caps : List AV) (p : (List Int) → Bool) (hp : ∀ x ∈ a, ∀ (m : Nat) (S : St), evCall T m (evFL T) g (.ts .imm 1 (x.map encInt) :: caps) S = some (.bool (p x), S)) (hn : a.length ≤ 9223372036854775807)   : ∀ i fr S, i ≤ a.length → I91_0 a g caps p  i fr S → R91_0 a g caps p  (evCL T 0 (.loop l91_0) fr S) := by
  refine loopQ _ _ _ ?_ ?_
  · rintro i fr S hi ⟨f, rfl, t0, t1, t7, t8, rfl, hf⟩
    have hwi : IntKind.i64.wrap ((i : Int) + 1) = (i : Int) + 1 := wrap64 (by omega) (by omega)
    have hpi := hp (nth a i) (nth_mem hi) 0
    cases hc : p (nth a i)
    · simp -implicitDefEqProofs [r91_0, r91_1, r91_2, r91_3, r91_4, r91_5, r91_6, r91_7, l91_0, hp, hn, -List.getElem?_map, -getElem?_pos, -Int.pred_toNat, List.getElem?_cons_zero, map_get, -List.map_take, -List.map_drop, take_map, drop_map, upd_ne, frOf_set, frOf_get, frOf_getD, encLInt, t0, t1, t7, t8, hi, hwi, hpi, hc]
      refine .go _ _ ⟨_, rfl, (by first | rfl | assumption | simp [upd, *]), (by first | rfl | assumption | simp [upd, *]), (by first | rfl | assumption | simp [upd, *]), (by first | rfl | assumption | simp [upd, *]), rfl, ?_⟩; exact none_succ hf hc
    · simp -implicitDefEqProofs [r91_0, r91_1, r91_2, r91_3, r91_4, r91_5, r91_6, r91_7, l91_0, hp, hn, -List.getElem?_map, -getElem?_pos, -Int.pred_toNat, List.getElem?_cons_zero, map_get, -List.map_take, -List.map_drop, take_map, drop_map, upd_ne, frOf_set, frOf_get, frOf_getD, encLInt, t0, t1, t7, t8, hi, hwi, hpi, hc]
      refine .ret _ _ (Or.inl ⟨_, _, rfl, (by first | rfl | assumption | simp [upd, *]), ?_⟩); exact idxF_hit hi hf hc
  · rintro fr S ⟨f, rfl, t0, t1, t7, t8, rfl, hf⟩
    simp -implicitDefEqProofs [r91_0, r91_1, r91_2, r91_3, r91_4, r91_5, r91_6, r91_7, l91_0, hp, hn, -List.getElem?_map, -getElem?_pos, -Int.pred_toNat, List.getElem?_cons_zero, map_get, -List.map_take, -List.map_drop, take_map, drop_map, upd_ne, frOf_set, frOf_get, frOf_getD, encLInt, t0, t1, t7, t8]
    refine .exit _ _ _ (Or.inr ⟨_, rfl, ?_⟩)
    exact idxF_miss hf
theorem e91 (a : (List (List Int))) (g : Nat) (caps : List AV) (p : (List Int) → Bool) (hp : ∀ x ∈ a, ∀ (m : Nat) (S : St), evCall T m (evFL T) g (.ts .imm 1 (x.map encInt) :: caps) S = some (.bool (p x), S)) (hn : a.length ≤ 9223372036854775807) : evFL T 91 [.ts .imm 1 (a.map (encLInt .imm)), .fn g caps] [] = some (.int .i64 (idxF p a), []) := by
  rw [evFL_at fn91 (by simp)]
  simp -implicitDefEqProofs [c91, r91_0, r91_1, r91_2, r91_3, r91_4, r91_5, r91_6, r91_7, hp, hn, -List.getElem?_map, -getElem?_pos, -Int.pred_toNat, List.getElem?_cons_zero, map_get, -List.map_take, -List.map_drop, take_map, drop_map, upd_ne, frOf_set, frOf_get, frOf_getD, encLInt]
  generalize hr : evCL T 0 (.loop l91_0) _ _ = r
  have h : R91_0 a g caps p  r := by rw [← hr]; exact L91_0 a g caps p hp hn  (0) _ _ (by omega) ⟨_, rfl, (by simp [upd, *]), (by simp [upd, *]), (by simp [upd, *]), (by simp [upd, *]), rfl, by simp⟩
  clear hr
  rcases h with h | h
  · obtain ⟨f0, j, rfl, u0_4, hf0⟩ := h
    simp -implicitDefEqProofs [r91_0, r91_1, r91_2, r91_3, r91_4, r91_5, r91_6, r91_7, hp, hn, -List.getElem?_map, -getElem?_pos, -Int.pred_toNat, List.getElem?_cons_zero, map_get, -List.map_take, -List.map_drop, take_map, drop_map, upd_ne, frOf_set, frOf_get, frOf_getD, encLInt, u0_4, hf0] <;> try omega
  obtain ⟨f0, rfl, hf0⟩ := h
  simp -implicitDefEqProofs [r91_0, r91_1, r91_2, r91_3, r91_4, r91_5, r91_6, r91_7, hp, hn, -List.getElem?_map, -getElem?_pos, -Int.pred_toNat, List.getElem?_cons_zero, map_get, -List.map_take, -List.map_drop, take_map, drop_map, upd_ne, frOf_set, frOf_get, frOf_getD, encLInt, hf0] <;> try omega
-- slices.ContainsFunc[[][]int,[]int]
@[simp] theorem call53 {m : Nat} (args : List AV) (S : St) : evCall T m (evFL T) 53 args S = lendC (evFL T 53) S (lendAll S i53.pes args) := evCall0 fn53 rfl rfl args S
@[simp] theorem callz53 (args : List AV) (S : St) : evCallFz T (evFL T) 53 args S = lendZ (evFL T 53) S i53.res (lendAll S i53.pes args) := evCallFz0 fn53 rfl rfl args S
@[simp] theorem pes53 : i53.pes = [[1], [0]] := rfl
@[simp] theorem body53 : i53.body = c53 := rfl
@[simp] theorem kind53 : i53.kind = 0 := rfl
@[simp] theorem tree53 : i53.tree = false := rfl
@[simp] theorem ntmps53 : i53.ntmps = 9 := rfl
@[simp] theorem results53 : i53.results = [(ResultVar.tmp 4)] := rfl
@[simp] theorem res53 : i53.res = [[0]] := rfl
theorem e53 (a : (List (List Int))) (g : Nat) (caps : List AV) (p : (List Int) → Bool) (hp : ∀ x ∈ a, ∀ (m : Nat) (S : St), evCall T m (evFL T) g (.ts .imm 1 (x.map encInt) :: caps) S = some (.bool (p x), S)) (hn : a.length ≤ 9223372036854775807) (hcaps : ∀ S, mapO (lendPtr S) caps = some caps) : evFL T 53 [.ts .imm 1 (a.map (encLInt .imm)), .fn g caps] [] = some (.bool (a.any p), []) := by
  rw [evFL_at fn53 (by simp)]
  have he := e91 a g caps p hp hn
  all_goals simp -implicitDefEqProofs [c53, r53_0, r53_1, hp, hn, hcaps, call91, callz91, e91, -List.getElem?_map, -getElem?_pos, -Int.pred_toNat, List.getElem?_cons_zero, map_get, -List.map_take, -List.map_drop, take_map, drop_map, upd_ne, frOf_set, frOf_get, frOf_getD, he, idxF_any]
-- slices.Index[[]int,int]
@[simp] theorem call101 {m : Nat} (args : List AV) (S : St) : evCall T m (evFL T) 101 args S = lendC (evFL T 101) S (lendAll S i101.pes args) := evCall0 fn101 rfl rfl args S
@[simp] theorem callz101 (args : List AV) (S : St) : evCallFz T (evFL T) 101 args S = lendZ (evFL T 101) S i101.res (lendAll S i101.pes args) := evCallFz0 fn101 rfl rfl args S
@[simp] theorem pes101 : i101.pes = [[1], [0]] := rfl
@[simp] theorem body101 : i101.body = c101 := rfl
@[simp] theorem kind101 : i101.kind = 0 := rfl
@[simp] theorem tree101 : i101.tree = false := rfl
@[simp] theorem ntmps101 : i101.ntmps = 19 := rfl
@[simp] theorem results101 : i101.results = [(ResultVar.tmp 4)] := rfl
@[simp] theorem res101 : i101.res = [[0]] := rfl
def I101_0 (a : (List Int)) (v : Int)  (i : Nat) (fr : Fr) (S : St) : Prop := ∃ f : Nat → AV, fr = frOf 19 f ∧ f 0 = .ts .imm 1 (a.map encInt) ∧ f 1 = .int .i64 v ∧ f 7 = .int .i64 a.length ∧ f 8 = .int .i64 i ∧ S = [] ∧ ∀ j, j < i → decide (v = nth a j) = false
def R101_0 (a : (List Int)) (v : Int)  (r : Option (Ex × Fr × St)) : Prop := (∃ f : Nat → AV, ∃ j : Int, r = some (.ret, frOf 19 f, []) ∧ f 4 = .int .i64 j ∧ idxF (fun x => decide (v = x)) a = j) ∨ (∃ f : Nat → AV, r = some (.exit 0, frOf 19 f, []) ∧ idxF (fun x => decide (v = x)) a = -1)
theorem L101_0 (a : (List Int)) (v : Int) (h0 : a.length ≤ 1048576)   : ∀ i fr S, i ≤ a.length → I101_0 a v  i fr S → R101_0 a v  (evCL T 0 (.loop l101_0) fr S) := by
  refine loopQ _ _ _ ?_ ?_
  · rintro i fr S hi ⟨f, rfl, t0, t1, t7, t8, rfl, hf⟩
    have hwi : IntKind.i64.wrap ((i : Int) + 1) = (i : Int) + 1 := wrap64 (by omega) (by omega)
    by_cases ht1 : v = nth a i
    · subst ht1
      simp -implicitDefEqProofs [r101_0, r101_1, r101_2, r101_3, r101_4, r101_5, r101_6, r101_7, l101_0, h0, -List.getElem?_map, -getElem?_pos, -Int.pred_toNat, List.getElem?_cons_zero, map_get, -List.map_take, -List.map_drop, take_map, drop_map, upd_ne, frOf_set, frOf_get, frOf_getD, encInt, t0, t1, t7, t8, hi, hwi]
      refine .ret _ _ (Or.inl ⟨_, _, rfl, (by first | rfl | assumption | simp [upd, *]), ?_⟩); exact idxF_hit hi hf (by simp)
    · simp -implicitDefEqProofs [r101_0, r101_1, r101_2, r101_3, r101_4, r101_5, r101_6, r101_7, l101_0, h0, -List.getElem?_map, -getElem?_pos, -Int.pred_toNat, List.getElem?_cons_zero, map_get, -List.map_take, -List.map_drop, take_map, drop_map, upd_ne, frOf_set, frOf_get, frOf_getD, encInt, t0, t1, t7, t8, hi, hwi, ht1]
      refine .go _ _ ⟨_, rfl, (by first | rfl | assumption | simp [upd, *]), (by first | rfl | assumption | simp [upd, *]), (by first | rfl | assumption | simp [upd, *]), (by first | rfl | assumption | simp [upd, *]), rfl, ?_⟩; exact none_succ hf (by simp [ht1])
  · rintro fr S ⟨f, rfl, t0, t1, t7, t8, rfl, hf⟩
    simp -implicitDefEqProofs [r101_0, r101_1, r101_2, r101_3, r101_4, r101_5, r101_6, r101_7, l101_0, h0, -List.getElem?_map, -getElem?_pos, -Int.pred_toNat, List.getElem?_cons_zero, map_get, -List.map_take, -List.map_drop, take_map, drop_map, upd_ne, frOf_set, frOf_get, frOf_getD, encInt, t0, t1, t7, t8]
    refine .exit _ _ _ (Or.inr ⟨_, rfl, ?_⟩)
    exact idxF_miss hf
theorem e101 (a : (List Int)) (v : Int) (h0 : a.length ≤ 1048576) : evFL T 101 [.ts .imm 1 (a.map encInt), .int .i64 v] [] = some (.int .i64 (idxF (fun x => decide (v = x)) a), []) := by
  rw [evFL_at fn101 (by simp)]
  simp -implicitDefEqProofs [c101, r101_0, r101_1, r101_2, r101_3, r101_4, r101_5, r101_6, r101_7, h0, -List.getElem?_map, -getElem?_pos, -Int.pred_toNat, List.getElem?_cons_zero, map_get, -List.map_take, -List.map_drop, take_map, drop_map, upd_ne, frOf_set, frOf_get, frOf_getD, encInt]
  generalize hr : evCL T 0 (.loop l101_0) _ _ = r
  have h : R101_0 a v  r := by rw [← hr]; exact L101_0 a v h0  (0) _ _ (by omega) ⟨_, rfl, (by simp [upd, *]), (by simp [upd, *]), (by simp [upd, *]), (by simp [upd, *]), rfl, by simp⟩
  clear hr
  rcases h with h | h
  · obtain ⟨f0, j, rfl, u0_4, hf0⟩ := h
    simp -implicitDefEqProofs [r101_0, r101_1, r101_2, r101_3, r101_4, r101_5, r101_6, r101_7, h0, -List.getElem?_map, -getElem?_pos, -Int.pred_toNat, List.getElem?_cons_zero, map_get, -List.map_take, -List.map_drop, take_map, drop_map, upd_ne, frOf_set, frOf_get, frOf_getD, encInt, u0_4, hf0] <;> try omega
  obtain ⟨f0, rfl, hf0⟩ := h
  simp -implicitDefEqProofs [r101_0, r101_1, r101_2, r101_3, r101_4, r101_5, r101_6, r101_7, h0, -List.getElem?_map, -getElem?_pos, -Int.pred_toNat, List.getElem?_cons_zero, map_get, -List.map_take, -List.map_drop, take_map, drop_map, upd_ne, frOf_set, frOf_get, frOf_getD, encInt, hf0] <;> try omega
-- slices.Contains[[]int,int]
@[simp] theorem call89 {m : Nat} (args : List AV) (S : St) : evCall T m (evFL T) 89 args S = lendC (evFL T 89) S (lendAll S i89.pes args) := evCall0 fn89 rfl rfl args S
@[simp] theorem callz89 (args : List AV) (S : St) : evCallFz T (evFL T) 89 args S = lendZ (evFL T 89) S i89.res (lendAll S i89.pes args) := evCallFz0 fn89 rfl rfl args S
@[simp] theorem pes89 : i89.pes = [[1], [0]] := rfl
@[simp] theorem body89 : i89.body = c89 := rfl
@[simp] theorem kind89 : i89.kind = 0 := rfl
@[simp] theorem tree89 : i89.tree = false := rfl
@[simp] theorem ntmps89 : i89.ntmps = 9 := rfl
@[simp] theorem results89 : i89.results = [(ResultVar.tmp 4)] := rfl
@[simp] theorem res89 : i89.res = [[0]] := rfl
theorem e89 (a : (List Int)) (v : Int) (h0 : a.length ≤ 1048576) : evFL T 89 [.ts .imm 1 (a.map encInt), .int .i64 v] [] = some (.bool (hasI a v), []) := by
  rw [evFL_at fn89 (by simp)]
  all_goals simp -implicitDefEqProofs [c89, r89_0, r89_1, h0, call101, callz101, e101, -List.getElem?_map, -getElem?_pos, -Int.pred_toNat, List.getElem?_cons_zero, map_get, -List.map_take, -List.map_drop, take_map, drop_map, upd_ne, frOf_set, frOf_get, frOf_getD, idxF_any, hasI_comm]
-- slices.Equal[[]int,int]
@[simp] theorem call55 {m : Nat} (args : List AV) (S : St) : evCall T m (evFL T) 55 args S = lendC (evFL T 55) S (lendAll S i55.pes args) := evCall0 fn55 rfl rfl args S
@[simp] theorem callz55 (args : List AV) (S : St) : evCallFz T (evFL T) 55 args S = lendZ (evFL T 55) S i55.res (lendAll S i55.pes args) := evCallFz0 fn55 rfl rfl args S
@[simp] theorem pes55 : i55.pes = [[1], [1]] := rfl
@[simp] theorem body55 : i55.body = c55 := rfl
@[simp] theorem kind55 : i55.kind = 0 := rfl
@[simp] theorem tree55 : i55.tree = false := rfl
@[simp] theorem ntmps55 : i55.ntmps = 26 := rfl
@[simp] theorem results55 : i55.results = [(ResultVar.tmp 4)] := rfl
@[simp] theorem res55 : i55.res = [[0]] := rfl
def I55_0 (a : (List Int)) (b : (List Int))  (i : Nat) (fr : Fr) (S : St) : Prop := ∃ f : Nat → AV, fr = frOf 26 f ∧ f 0 = .ts .imm 1 (a.map encInt) ∧ f 1 = .ts .imm 1 (b.map encInt) ∧ f 12 = .int .i64 a.length ∧ f 13 = .int .i64 i ∧ S = [] ∧ ∀ j, j < i → nth a j = nth b j
def R55_0 (a : (List Int)) (b : (List Int))  (r : Option (Ex × Fr × St)) : Prop := (∃ f : Nat → AV, r = some (.ret, frOf 26 f, []) ∧ f 4 = .bool false ∧ decide (a = b) = false) ∨ (∃ f : Nat → AV, r = some (.exit 0, frOf 26 f, []) ∧ decide (a = b) = true)
theorem L55_0 (a : (List Int)) (b : (List Int)) (h0 : a.length ≤ 1048576) (h1 : b.length ≤ 1048576)  (hl0 : a.length = b.length) : ∀ i fr S, i ≤ a.length → I55_0 a b  i fr S → R55_0 a b  (evCL T 0 (.loop l55_0) fr S) := by
  refine loopQ _ _ _ ?_ ?_
  · rintro i fr S hi ⟨f, rfl, t0, t1, t12, t13, rfl, hf⟩
    have hwi : IntKind.i64.wrap ((i : Int) + 1) = (i : Int) + 1 := wrap64 (by omega) (by omega)
    have hib : i < b.length := by omega
    by_cases hc : nth a i = nth b i
    · simp -implicitDefEqProofs [r55_0, r55_1, r55_2, r55_3, r55_4, r55_5, r55_6, r55_7, r55_8, r55_9, l55_0, h0, h1, -List.getElem?_map, -getElem?_pos, -Int.pred_toNat, List.getElem?_cons_zero, map_get, -List.map_take, -List.map_drop, take_map, drop_map, upd_ne, frOf_set, frOf_get, frOf_getD, encInt, t0, t1, t12, t13, hi, hwi, hib, hc]
      refine .go _ _ ⟨_, rfl, (by first | rfl | assumption | simp [upd, *]), (by first | rfl | assumption | simp [upd, *]), (by first | rfl | assumption | simp [upd, *]), (by first | rfl | assumption | simp [upd, *]), rfl, ?_⟩; exact fa_succ hf hc
    · simp -implicitDefEqProofs [r55_0, r55_1, r55_2, r55_3, r55_4, r55_5, r55_6, r55_7, r55_8, r55_9, l55_0, h0, h1, -List.getElem?_map, -getElem?_pos, -Int.pred_toNat, List.getElem?_cons_zero, map_get, -List.map_take, -List.map_drop, take_map, drop_map, upd_ne, frOf_set, frOf_get, frOf_getD, encInt, t0, t1, t12, t13, hi, hwi, hib, hc]
      refine .ret _ _ (Or.inl ⟨_, rfl, (by first | rfl | assumption | simp [upd, *]), ?_⟩); exact decide_eq_false (same_no hc)
  · rintro fr S ⟨f, rfl, t0, t1, t12, t13, rfl, hf⟩
    simp -implicitDefEqProofs [r55_0, r55_1, r55_2, r55_3, r55_4, r55_5, r55_6, r55_7, r55_8, r55_9, l55_0, h0, h1, -List.getElem?_map, -getElem?_pos, -Int.pred_toNat, List.getElem?_cons_zero, map_get, -List.map_take, -List.map_drop, take_map, drop_map, upd_ne, frOf_set, frOf_get, frOf_getD, encInt, t0, t1, t12, t13]
    refine .exit _ _ _ (Or.inr ⟨_, rfl, ?_⟩)
    exact decide_eq_true (same_all hl0 hf)
theorem e55 (a : (List Int)) (b : (List Int)) (h0 : a.length ≤ 1048576) (h1 : b.length ≤ 1048576) : evFL T 55 [.ts .imm 1 (a.map encInt), .ts .imm 1 (b.map encInt)] [] = some (.bool (decide (a = b)), []) := by
  rw [evFL_at fn55 (by simp)]
  rcases Nat.lt_or_ge 0 0 with h9 | _
  · omega
  by_cases hl : a.length ≠ b.length
  · have hl2 : ¬ (a.length : Int) = (b.length : Int) := by omega
    have hl3 : a ≠ b := fun e => hl (by rw [e])
    simp -implicitDefEqProofs [c55, r55_0, r55_1, r55_2, r55_3, r55_4, r55_5, r55_6, r55_7, r55_8, r55_9, h0, h1, -List.getElem?_map, -getElem?_pos, -Int.pred_toNat, List.getElem?_cons_zero, map_get, -List.map_take, -List.map_drop, take_map, drop_map, upd_ne, frOf_set, frOf_get, frOf_getD, encInt, hl, hl2, hl3]
  have hl0 : a.length = b.length := by omega
  simp -implicitDefEqProofs [c55, r55_0, r55_1, r55_2, r55_3, r55_4, r55_5, r55_6, r55_7, r55_8, r55_9, h0, h1, -List.getElem?_map, -getElem?_pos, -Int.pred_toNat, List.getElem?_cons_zero, map_get, -List.map_take, -List.map_drop, take_map, drop_map, upd_ne, frOf_set, frOf_get, frOf_getD, encInt, hl0]
  generalize hr : evCL T 0 (.loop l55_0) _ _ = r
  have h : R55_0 a b  r := by rw [← hr]; exact L55_0 a b h0 h1 hl0 (0) _ _ (by omega) ⟨_, rfl, (by simp [upd, *]), (by simp [upd, *]), (by simp [upd, *]), (by simp [upd, *]), rfl, by simp⟩
  clear hr
  rcases h with h | h
  · obtain ⟨f0, rfl, u0_4, hf0⟩ := h
    simp -implicitDefEqProofs [r55_0, r55_1, r55_2, r55_3, r55_4, r55_5, r55_6, r55_7, r55_8, r55_9, h0, h1, -List.getElem?_map, -getElem?_pos, -Int.pred_toNat, List.getElem?_cons_zero, map_get, -List.map_take, -List.map_drop, take_map, drop_map, upd_ne, frOf_set, frOf_get, frOf_getD, encInt, u0_4, hf0] <;> try omega
  obtain ⟨f0, rfl, hf0⟩ := h
  simp -implicitDefEqProofs [r55_0, r55_1, r55_2, r55_3, r55_4, r55_5, r55_6, r55_7, r55_8, r55_9, h0, h1, -List.getElem?_map, -getElem?_pos, -Int.pred_toNat, List.getElem?_cons_zero, map_get, -List.map_take, -List.map_drop, take_map, drop_map, upd_ne, frOf_set, frOf_get, frOf_getD, encInt, hf0] <;> try omega
-- impl.isWay$1
@[simp] theorem call90 {m : Nat} (args : List AV) (S : St) : evCall T m (evFL T) 90 args S = lendC (evFL T 90) S (lendAll S i90.pes args) := evCall0 fn90 rfl rfl args S
@[simp] theorem callz90 (args : List AV) (S : St) : evCallFz T (evFL T) 90 args S = lendZ (evFL T 90) S i90.res (lendAll S i90.pes args) := evCallFz0 fn90 rfl rfl args S
@[simp] theorem pes90 : i90.pes = [[1], [0]] := rfl
@[simp] theorem body90 : i90.body = c90 := rfl
@[simp] theorem kind90 : i90.kind = 0 := rfl
@[simp] theorem tree90 : i90.tree = false := rfl
@[simp] theorem ntmps90 : i90.ntmps = 8 := rfl
@[simp] theorem results90 : i90.results = [(ResultVar.tmp 3)] := rfl
@[simp] theorem res90 : i90.res = [[0]] := rfl
theorem e90 (q : (List Int)) (w : List Int) (h0 : q.length ≤ 1048576) (h1 : w.length ≤ 1048576) (h2 : 1 ≤ w.length) : evFL T 90 [.ts .imm 1 (q.map encInt), .tp .imm 1 [[.ts .imm 1 (w.map encInt)]] 0 0] [] = some (.bool (decide (q = w.drop 1)), []) := by
  rw [evFL_at fn90 (by simp)]
  have hc2 : (1 : Int) ≤ (w.length : Int) := by omega
  have he := e55 q (w.drop 1) h0 (by simp; omega)
  simp -implicitDefEqProofs [c90, r90_0, r90_1, h0, h1, h2, call55, callz55, e55, -List.getElem?_map, -getElem?_pos, -Int.pred_toNat, List.getElem?_cons_zero, map_get, -List.map_take, -List.map_drop, take_map, drop_map, upd_ne, frOf_set, frOf_get, frOf_getD, -List.drop_one, hc2, he]
-- impl.isWay
@[simp] theorem call52 {m : Nat} (args : List AV) (S : St) : evCall T m (evFL T) 52 args S = lendC (evFL T 52) S (lendAll S i52.pes args) := evCall0 fn52 rfl rfl args S
@[simp] theorem callz52 (args : List AV) (S : St) : evCallFz T (evFL T) 52 args S = lendZ (evFL T 52) S i52.res (lendAll S i52.pes args) := evCallFz0 fn52 rfl rfl args S
@[simp] theorem pes52 : i52.pes = [[1], [0], [1]] := rfl
@[simp] theorem body52 : i52.body = c52 := rfl
@[simp] theorem kind52 : i52.kind = 0 := rfl
@[simp] theorem tree52 : i52.tree = false := rfl
@[simp] theorem ntmps52 : i52.ntmps = 69 := rfl
@[simp] theorem results52 : i52.results = [(ResultVar.tmp 6)] := rfl
@[simp] theorem res52 : i52.res = [[0]] := rfl
def I52_0 (a_ranked : (List (List (List Int)))) (n : Int) (p : (List Int))  (i : Nat) (fr : Fr) (S : St) : Prop := ∃ f : Nat → AV, fr = frOf 69 f ∧ f 3 = .ptr 0 0 0 ∧ f 5 = .ptr 1 0 0 ∧ f 7 = .int .i64 ((p.length - 1 : Nat) : Int) ∧ f 29 = .ts .imm 1 (p.map encInt) ∧ f 30 = .int .i64 p.length ∧ f 31 = .int .i64 i ∧ S = [some ⟨.box, 1, [[.ts .imm 1 (a_ranked.map (encLLInt .imm))]]⟩, some ⟨.box, 1, [[.ts .imm 1 (p.map encInt)]]⟩] ∧ allB i (wayP (a_ranked.length : Int) p) = true
def R52_0 (a_ranked : (List (List (List Int)))) (n : Int) (p : (List Int))  (r : Option (Ex × Fr × St)) : Prop := (∃ f : Nat → AV, r = some (.ret, frOf 69 f, [some ⟨.box, 1, [[.ts .imm 1 (a_ranked.map (encLLInt .imm))]]⟩, some ⟨.box, 1, [[.ts .imm 1 (p.map encInt)]]⟩]) ∧ f 6 = .bool false ∧ allB p.length (wayP (a_ranked.length : Int) p) = false) ∨ (∃ f : Nat → AV, r = some (.exit 0, frOf 69 f, [some ⟨.box, 1, [[.ts .imm 1 (a_ranked.map (encLLInt .imm))]]⟩, some ⟨.box, 1, [[.ts .imm 1 (p.map encInt)]]⟩]) ∧ f 3 = .ptr 0 0 0 ∧ f 5 = .ptr 1 0 0 ∧ f 7 = .int .i64 ((p.length - 1 : Nat) : Int) ∧ allB p.length (wayP (a_ranked.length : Int) p) = true)
theorem L52_0 (a_ranked : (List (List (List Int)))) (n : Int) (p : (List Int)) (ha0 : a_ranked.length ≤ 1048576) (ha1 : smsLLInt a_ranked) (h0 : p.length ≤ 1048576)  (hb2 : nth p (p.length - 1) = 0) : ∀ i fr S, i ≤ p.length → I52_0 a_ranked n p  i fr S → R52_0 a_ranked n p  (evCL T 0 (.loop l52_0) fr S) := by
  refine loopQ _ _ _ ?_ ?_
  · rintro i fr S hi ⟨f, rfl, t3, t5, t7, t29, t30, t31, rfl, hf⟩
    have hwi : IntKind.i64.wrap ((i : Int) + 1) = (i : Int) + 1 := wrap64 (by omega) (by omega)
    have hile : i ≤ p.length := Nat.le_of_lt hi
    have hmin : min i p.length = i := by omega
    have hib : i ≤ 1048576 := by omega
    by_cases ht1 : i < p.length - 1
    · by_cases ht2 : inR (nth p i) 1 (a_ranked.length : Int) = true
      · have hx : 1 ≤ nth p i ∧ nth p i ≤ (a_ranked.length : Int) := by simpa [inR] using ht2
        by_cases ht3 : hasI (p.take i) (nth p i) = true
        · simp -implicitDefEqProofs [r52_0, r52_1, r52_2, r52_3, r52_4, r52_5, r52_6, r52_7, r52_8, r52_9, r52_10, l52_0, ha0, ha1, h0, call51, callz51, e51, call53, callz53, e53, call89, callz89, e89, call90, callz90, e90, -List.getElem?_map, -getElem?_pos, -Int.pred_toNat, List.getElem?_cons_zero, map_get, -List.map_take, -List.map_drop, take_map, drop_map, upd_ne, frOf_set, frOf_get, frOf_getD, encInt, -List.drop_one, encLInt, encLLInt, t3, t5, t7, t29, t30, t31, hi, hwi, hile, hmin, hib, ht1, ht2, ht3]
          refine .ret _ _ (Or.inl ⟨_, rfl, (by first | rfl | assumption | simp [upd, *]), ?_⟩); exact allB_no hi (by simp [wayP, ht3])
        · simp -implicitDefEqProofs [r52_0, r52_1, r52_2, r52_3, r52_4, r52_5, r52_6, r52_7, r52_8, r52_9, r52_10, l52_0, ha0, ha1, h0, call51, callz51, e51, call53, callz53, e53, call89, callz89, e89, call90, callz90, e90, -List.getElem?_map, -getElem?_pos, -Int.pred_toNat, List.getElem?_cons_zero, map_get, -List.map_take, -List.map_drop, take_map, drop_map, upd_ne, frOf_set, frOf_get, frOf_getD, encInt, -List.drop_one, encLInt, encLLInt, t3, t5, t7, t29, t30, t31, hi, hwi, hile, hmin, hib, ht1, ht2, ht3]
          refine .go _ _ ⟨_, rfl, (by first | rfl | assumption | simp [upd, *]), (by first | rfl | assumption | simp [upd, *]), (by first | rfl | assumption | simp [upd, *]), (by first | rfl | assumption | simp [upd, *]), (by first | rfl | assumption | simp [upd, *]), (by first | rfl | assumption | simp [upd, *]), rfl, ?_⟩; rw [allB_succ, hf]; have h9 : (0 ≤ nth p i ∧ nth p i ≤ (a_ranked.length : Int)) := (by omega); have h7 : ¬ nth p i = 0 := (by omega); simp [wayP, h9, ht3, h7]
      · simp -implicitDefEqProofs [r52_0, r52_1, r52_2, r52_3, r52_4, r52_5, r52_6, r52_7, r52_8, r52_9, r52_10, l52_0, ha0, ha1, h0, call51, callz51, e51, call53, callz53, e53, call89, callz89, e89, call90, callz90, e90, -List.getElem?_map, -getElem?_pos, -Int.pred_toNat, List.getElem?_cons_zero, map_get, -List.map_take, -List.map_drop, take_map, drop_map, upd_ne, frOf_set, frOf_get, frOf_getD, encInt, -List.drop_one, encLInt, encLLInt, t3, t5, t7, t29, t30, t31, hi, hwi, hile, hmin, hib, ht1, ht2]
        refine .ret _ _ (Or.inl ⟨_, rfl, (by first | rfl | assumption | simp [upd, *]), ?_⟩); exact allB_no hi (by have h8 : ¬ i + 1 = p.length := (by omega); have h9 : ¬ (0 ≤ nth p i ∧ nth p i ≤ (a_ranked.length : Int) ∧ nth p i ≠ 0) := (by intro h7; simp [inR] at ht2; omega); simp [wayP, h8]; intro h1 h2; omega)
    · have hil : i = p.length - 1 := by omega
      have hx0 : nth p i = 0 := by rw [hil]; exact hb2
      by_cases ht4 : hasI (p.take i) (nth p i) = true
      · simp -implicitDefEqProofs [r52_0, r52_1, r52_2, r52_3, r52_4, r52_5, r52_6, r52_7, r52_8, r52_9, r52_10, l52_0, ha0, ha1, h0, call51, callz51, e51, call53, callz53, e53, call89, callz89, e89, call90, callz90, e90, -List.getElem?_map, -getElem?_pos, -Int.pred_toNat, List.getElem?_cons_zero, map_get, -List.map_take, -List.map_drop, take_map, drop_map, upd_ne, frOf_set, frOf_get, frOf_getD, encInt, -List.drop_one, encLInt, encLLInt, t3, t5, t7, t29, t30, t31, hi, hwi, hile, hmin, hib, ht1, ht4]
        refine .ret _ _ (Or.inl ⟨_, rfl, (by first | rfl | assumption | simp [upd, *]), ?_⟩); exact allB_no hi (by simp [wayP, ht4])
      · simp -implicitDefEqProofs [r52_0, r52_1, r52_2, r52_3, r52_4, r52_5, r52_6, r52_7, r52_8, r52_9, r52_10, l52_0, ha0, ha1, h0, call51, callz51, e51, call53, callz53, e53, call89, callz89, e89, call90, callz90, e90, -List.getElem?_map, -getElem?_pos, -Int.pred_toNat, List.getElem?_cons_zero, map_get, -List.map_take, -List.map_drop, take_map, drop_map, upd_ne, frOf_set, frOf_get, frOf_getD, encInt, -List.drop_one, encLInt, encLLInt, t3, t5, t7, t29, t30, t31, hi, hwi, hile, hmin, hib, ht1, ht4]
        refine .go _ _ ⟨_, rfl, (by first | rfl | assumption | simp [upd, *]), (by first | rfl | assumption | simp [upd, *]), (by first | rfl | assumption | simp [upd, *]), (by first | rfl | assumption | simp [upd, *]), (by first | rfl | assumption | simp [upd, *]), (by first | rfl | assumption | simp [upd, *]), rfl, ?_⟩; rw [allB_succ, hf]; have h9 : (0 ≤ nth p i ∧ nth p i ≤ (a_ranked.length : Int)) := (by omega); have h8 : i + 1 = p.length := (by omega); simp [wayP, h9, ht4, h8]
  · rintro fr S ⟨f, rfl, t3, t5, t7, t29, t30, t31, rfl, hf⟩
    simp -implicitDefEqProofs [r52_0, r52_1, r52_2, r52_3, r52_4, r52_5, r52_6, r52_7, r52_8, r52_9, r52_10, l52_0, ha0, ha1, h0, call51, callz51, e51, call53, callz53, e53, call89, callz89, e89, call90, callz90, e90, -List.getElem?_map, -getElem?_pos, -Int.pred_toNat, List.getElem?_cons_zero, map_get, -List.map_take, -List.map_drop, take_map, drop_map, upd_ne, frOf_set, frOf_get, frOf_getD, encInt, -List.drop_one, encLInt, encLLInt, t3, t5, t7, t29, t30, t31]
    refine .exit _ _ _ (Or.inr ⟨_, rfl, (by first | rfl | assumption | simp [upd, *]), (by first | rfl | assumption | simp [upd, *]), (by first | rfl | assumption | simp [upd, *]), ?_⟩)
    first | trivial | assumption | simp [*]
theorem e52 (a_ranked : (List (List (List Int)))) (n : Int) (p : (List Int)) (ha0 : a_ranked.length ≤ 1048576) (ha1 : smsLLInt a_ranked) (h0 : p.length ≤ 1048576) : evFL T 52 [.agg [.ts .imm 1 (a_ranked.map (encLLInt .imm))], .int .i64 n, .ts .imm 1 (p.map encInt)] [] = some (.bool (isWayB a_ranked n p), []) := by
  rw [evFL_at fn52 (by simp)]
  by_cases hl2 : p.length < 2
  · have hwl : IntKind.i64.wrap ((p.length : Int) - 1) = (p.length : Int) - 1 := wrap64 (by omega) (by omega)
    have h2i : (p.length : Int) - 1 < 1 := by omega
    have h2j : ¬ (2 ≤ p.length) := by omega
    simp -implicitDefEqProofs [c52, r52_0, r52_1, r52_2, r52_3, r52_4, r52_5, r52_6, r52_7, r52_8, r52_9, r52_10, ha0, ha1, h0, call51, callz51, e51, call53, callz53, e53, call89, callz89, e89, call90, callz90, e90, -List.getElem?_map, -getElem?_pos, -Int.pred_toNat, List.getElem?_cons_zero, map_get, -List.map_take, -List.map_drop, take_map, drop_map, upd_ne, frOf_set, frOf_get, frOf_getD, encInt, -List.drop_one, encLInt, encLLInt, hwl, h2i, h2j, isWayB]
  have h2i : ¬ (((p.length - 1 : Nat) : Int) < 1) := by omega
  have h2n : ¬ (p.length - 1 < 1) := by omega
  have hr2 : 2 ≤ p.length := by omega
  have hc0 : 0 < p.length := by omega
  have hcl : p.length - 1 < p.length := by omega
  have hwl : IntKind.i64.wrap ((p.length : Int) - 1) = ((p.length - 1 : Nat) : Int) := by rw [wrap64 (by omega) (by omega)]; omega
  have hz : (0 : Int) < (p.length : Int) := by omega
  have hp9 : p ≠ [] := by intro e; rw [e] at hc0; simp at hc0
  by_cases hb1 : nth p 0 ≠ n
  · simp -implicitDefEqProofs [c52, r52_0, r52_1, r52_2, r52_3, r52_4, r52_5, r52_6, r52_7, r52_8, r52_9, r52_10, ha0, ha1, h0, call51, callz51, e51, call53, callz53, e53, call89, callz89, e89, call90, callz90, e90, -List.getElem?_map, -getElem?_pos, -Int.pred_toNat, List.getElem?_cons_zero, map_get, -List.map_take, -List.map_drop, take_map, drop_map, upd_ne, frOf_set, frOf_get, frOf_getD, encInt, -List.drop_one, encLInt, encLLInt, h2i, h2n, hc0, hcl, hwl, hz, hp9, hb1, isWayB]
  replace hb1 : nth p 0 = n := by omega
  by_cases hb2 : nth p (p.length - 1) ≠ 0
  · simp -implicitDefEqProofs [c52, r52_0, r52_1, r52_2, r52_3, r52_4, r52_5, r52_6, r52_7, r52_8, r52_9, r52_10, ha0, ha1, h0, call51, callz51, e51, call53, callz53, e53, call89, callz89, e89, call90, callz90, e90, -List.getElem?_map, -getElem?_pos, -Int.pred_toNat, List.getElem?_cons_zero, map_get, -List.map_take, -List.map_drop, take_map, drop_map, upd_ne, frOf_set, frOf_get, frOf_getD, encInt, -List.drop_one, encLInt, encLLInt, h2i, h2n, hc0, hcl, hwl, hz, hp9, hb1, hb2, isWayB]
  replace hb2 : nth p (p.length - 1) = 0 := by omega
  simp -implicitDefEqProofs [c52, r52_0, r52_1, r52_2, r52_3, r52_4, r52_5, r52_6, r52_7, r52_8, r52_9, r52_10, ha0, ha1, h0, call51, callz51, e51, call53, callz53, e53, call89, callz89, e89, call90, callz90, e90, -List.getElem?_map, -getElem?_pos, -Int.pred_toNat, List.getElem?_cons_zero, map_get, -List.map_take, -List.map_drop, take_map, drop_map, upd_ne, frOf_set, frOf_get, frOf_getD, encInt, -List.drop_one, encLInt, encLLInt, h2i, h2n, hc0, hcl, hwl, hz, hp9, hb1, hb2]
  generalize hr : evCL T 0 (.loop l52_0) _ _ = r
  have h : R52_0 a_ranked n p  r := by rw [← hr]; exact L52_0 a_ranked n p ha0 ha1 h0 hb2 (0) _ _ (by omega) ⟨_, rfl, (by simp [upd, *]), (by simp [upd, *]), (by simp [upd, *]), (by simp [upd, *]), (by simp [upd, *]), (by simp [upd, *]), rfl, by first | trivial | assumption | simp⟩
  clear hr
  rcases h with h | h
  · obtain ⟨f0, rfl, u0_6, hf0⟩ := h
    simp -implicitDefEqProofs [r52_0, r52_1, r52_2, r52_3, r52_4, r52_5, r52_6, r52_7, r52_8, r52_9, r52_10, ha0, ha1, h0, call51, callz51, e51, call53, callz53, e53, call89, callz89, e89, call90, callz90, e90, -List.getElem?_map, -getElem?_pos, -Int.pred_toNat, List.getElem?_cons_zero, map_get, -List.map_take, -List.map_drop, take_map, drop_map, upd_ne, frOf_set, frOf_get, frOf_getD, encInt, -List.drop_one, encLInt, encLLInt, u0_6, hf0, isWayB]
  obtain ⟨f0, rfl, u0_3, u0_5, u0_7, hf0⟩ := h
  have hW : isWayB a_ranked n p = onB a_ranked p := by simp only [isWayB, hb1, hb2, hf0, hr2, decide_true, Bool.true_and]
  by_cases h2 : p.length = 2
  · have h2i : ((p.length - 1 : Nat) : Int) = 1 := by omega
    have h2k : p.length - 1 = 1 := by omega
    have hO : onB a_ranked p = true := by simp [onB, h2]
    simp -implicitDefEqProofs [r52_0, r52_1, r52_2, r52_3, r52_4, r52_5, r52_6, r52_7, r52_8, r52_9, r52_10, ha0, ha1, h0, call51, callz51, e51, call53, callz53, e53, call89, callz89, e89, call90, callz90, e90, -List.getElem?_map, -getElem?_pos, -Int.pred_toNat, List.getElem?_cons_zero, map_get, -List.map_take, -List.map_drop, take_map, drop_map, upd_ne, frOf_set, frOf_get, frOf_getD, encInt, -List.drop_one, encLInt, encLLInt, u0_3, u0_5, u0_7, hf0, hW, hO, h2i, h2k]
  · have h2i : ¬ ((p.length - 1 : Nat) : Int) = 1 := by omega
    have h2k : ¬ p.length - 1 = 1 := by omega
    have hw1 := way_one hf0 (by omega)
    have hc1 : 1 < p.length := by omega
    have hc2 : (1 : Int) ≤ (p.length : Int) := by omega
    have hc3 : (1 : Int) < (p.length : Int) := by omega
    have hk : (nth p 1 - 1).toNat < a_ranked.length := by omega
    have hz1 : 0 ≤ nth p 1 - 1 := by omega
    have hz2 : nth p 1 - 1 < (a_ranked.length : Int) := by omega
    have hwn : IntKind.i64.wrap (nth p 1 - 1) = nth p 1 - 1 := wrap64 (by omega) (by omega)
    obtain ⟨hr0, hr1⟩ := ha1 _ (nth_mem hk)
    have he := e53 (nth a_ranked (nth p 1 - 1).toNat) 90 [.tp .imm 1 [[.ts .imm 1 (p.map encInt)]] 0 0] (fun q => decide (q = p.drop 1)) (fun q hq m S => by simp -implicitDefEqProofs [e90 q p (hr1 q hq) h0 (by omega)]) (by omega) (fun S => by simp)
    simp -implicitDefEqProofs [r52_0, r52_1, r52_2, r52_3, r52_4, r52_5, r52_6, r52_7, r52_8, r52_9, r52_10, ha0, ha1, h0, call51, callz51, e51, call53, callz53, e53, call89, callz89, e89, call90, callz90, e90, -List.getElem?_map, -getElem?_pos, -Int.pred_toNat, List.getElem?_cons_zero, map_get, -List.map_take, -List.map_drop, take_map, drop_map, upd_ne, frOf_set, frOf_get, frOf_getD, encInt, -List.drop_one, encLInt, encLLInt, u0_3, u0_5, u0_7, hf0, hW, onB, h2, h2i, h2k, hc1, hc2, hc3, hk, hz1, hz2, hwn, he, hw1.1, hw1.2]
-- impl.GoodSpp$1
@[simp] theorem call54 {m : Nat} (args : List AV) (S : St) : evCall T m (evFL T) 54 args S = lendC (evFL T 54) S (lendAll S i54.pes args) := evCall0 fn54 rfl rfl args S
@[simp] theorem callz54 (args : List AV) (S : St) : evCallFz T (evFL T) 54 args S = lendZ (evFL T 54) S i54.res (lendAll S i54.pes args) := evCallFz0 fn54 rfl rfl args S
@[simp] theorem pes54 : i54.pes = [[1], [0]] := rfl
@[simp] theorem body54 : i54.body = c54 := rfl
@[simp] theorem kind54 : i54.kind = 0 := rfl
@[simp] theorem tree54 : i54.tree = false := rfl
@[simp] theorem ntmps54 : i54.ntmps = 7 := rfl
@[simp] theorem results54 : i54.results = [(ResultVar.tmp 3)] := rfl
@[simp] theorem res54 : i54.res = [[0]] := rfl
theorem e54 (q : (List Int)) (w : List Int) (h0 : q.length ≤ 1048576) (h1 : w.length ≤ 1048576) : evFL T 54 [.ts .imm 1 (q.map encInt), .tp .imm 1 [[.ts .imm 1 (w.map encInt)]] 0 0] [] = some (.bool (decide (q = w)), []) := by
  rw [evFL_at fn54 (by simp)]
  all_goals simp -implicitDefEqProofs [c54, r54_0, r54_1, h0, h1, call55, callz55, e55, -List.getElem?_map, -getElem?_pos, -Int.pred_toNat, List.getElem?_cons_zero, map_get, -List.map_take, -List.map_drop, take_map, drop_map, upd_ne, frOf_set, frOf_get, frOf_getD]
-- impl.GoodSpp
@[simp] theorem call16 {m : Nat} (args : List AV) (S : St) : evCall T m (evFL T) 16 args S = lendC (evFL T 16) S (lendAll S i16.pes args) := evCall0 fn16 rfl rfl args S
@[simp] theorem callz16 (args : List AV) (S : St) : evCallFz T (evFL T) 16 args S = lendZ (evFL T 16) S i16.res (lendAll S i16.pes args) := evCallFz0 fn16 rfl rfl args S
@[simp] theorem pes16 : i16.pes = [[1]] := rfl
@[simp] theorem body16 : i16.body = c16 := rfl
@[simp] theorem kind16 : i16.kind = 0 := rfl
@[simp] theorem tree16 : i16.tree = false := rfl
@[simp] theorem ntmps16 : i16.ntmps = 50 := rfl
@[simp] theorem results16 : i16.results = [(ResultVar.tmp 2)] := rfl
@[simp] theorem res16 : i16.res = [[0]] := rfl
def I16_0 (a_ranked : (List (List (List Int)))) (k0 : Nat) (i : Nat) (fr : Fr) (S : St) : Prop := ∃ f : Nat → AV, ∃ G : St, fr = frOf 50 f ∧ f 1 = .ptr 0 0 0 ∧ f 3 = .int .i64 k0 ∧ f 4 = .ts .imm 1 ((nth a_ranked k0).map (encLInt .imm)) ∧ f 13 = .ts .imm 1 (a_ranked.map (encLLInt .imm)) ∧ f 14 = .int .i64 a_ranked.length ∧ f 15 = .int .i64 k0 ∧ f 23 = .ts .imm 1 ((nth a_ranked k0).map (encLInt .imm)) ∧ f 24 = .int .i64 (nth a_ranked k0).length ∧ f 25 = .int .i64 i ∧ S = some ⟨.box, 1, [[.ts .imm 1 (a_ranked.map (encLLInt .imm))]]⟩ :: G ∧ allB i (rankP a_ranked k0 (nth a_ranked k0)) = true
def R16_0 (a_ranked : (List (List (List Int)))) (k0 : Nat) (r : Option (Ex × Fr × St)) : Prop := (∃ f : Nat → AV, ∃ G : St, r = some (.ret, frOf 50 f, some ⟨.box, 1, [[.ts .imm 1 (a_ranked.map (encLLInt .imm))]]⟩ :: G) ∧ f 2 = .bool false ∧ allB (nth a_ranked k0).length (rankP a_ranked k0 (nth a_ranked k0)) = false) ∨ (∃ f : Nat → AV, ∃ G : St, r = some (.exit 2, frOf 50 f, some ⟨.box, 1, [[.ts .imm 1 (a_ranked.map (encLLInt .imm))]]⟩ :: G) ∧ f 1 = .ptr 0 0 0 ∧ f 13 = .ts .imm 1 (a_ranked.map (encLLInt .imm)) ∧ f 14 = .int .i64 a_ranked.length ∧ f 15 = .int .i64 k0 ∧ allB (nth a_ranked k0).length (rankP a_ranked k0 (nth a_ranked k0)) = true)
theorem L16_0 (a_ranked : (List (List (List Int)))) (ha0 : a_ranked.length ≤ 1048576) (ha1 : smsLLInt a_ranked) (k0 : Nat) (hk0 : k0 < a_ranked.length) (hr0 : (nth a_ranked k0).length ≤ 1048576) (hr1 : smsLInt (nth a_ranked k0)) (hsm : a_ranked.length ≤ 5) : ∀ i fr S, i ≤ (nth a_ranked k0).length → I16_0 a_ranked k0 i fr S → R16_0 a_ranked k0 (evCL T 0 (.loop l16_0) fr S) := by
  refine loopQ _ _ _ ?_ ?_
  · rintro i fr S hi ⟨f, G, rfl, t1, t3, t4, t13, t14, t15, t23, t24, t25, rfl, hf⟩
    have hwi : IntKind.i64.wrap ((i : Int) + 1) = (i : Int) + 1 := wrap64 (by omega) (by omega)
    have hq := hr1 (nth (nth a_ranked k0) i) (nth_mem hi)
    simp only [smLInt] at hq
    have hile : i ≤ (nth a_ranked k0).length := Nat.le_of_lt hi
    have hmin : min i (nth a_ranked k0).length = i := by omega
    have hwk : IntKind.i64.wrap ((k0 : Int) + 1) = (k0 : Int) + 1 := wrap64 (by omega) (by omega)
    have e1 := e52 a_ranked ((k0 : Int) + 1) (nth (nth a_ranked k0) i) ha0 ha1 hq
    have he := e53 ((nth a_ranked k0).take i) 54 [.tp .imm 1 [[.ts .imm 1 ((nth (nth a_ranked k0) i).map encInt)]] 0 0] (fun q => decide (q = nth (nth a_ranked k0) i)) (fun q hq2 m S => by simp -implicitDefEqProofs [e54 q (nth (nth a_ranked k0) i) (hr1 q (List.mem_of_mem_take hq2)) hq]) (by simp; omega) (fun S => by simp)
    by_cases ht1 : (6 : Int) < ((nth (nth a_ranked k0) i).length : Int)
    · have h7 : isWayB a_ranked ((k0 : Int) + 1) (nth (nth a_ranked k0) i) = false := by rw [Bool.eq_false_iff]; intro h6; have := way_len hsm h6; omega
      simp -implicitDefEqProofs [r16_0, r16_1, r16_2, r16_3, r16_4, r16_5, r16_6, r16_7, r16_8, r16_9, r16_10, r16_11, r16_12, r16_13, r16_14, r16_15, l16_0, ha0, ha1, call51, callz51, e51, call52, callz52, e52, call53, callz53, e53, call54, callz54, e54, -List.getElem?_map, -getElem?_pos, -Int.pred_toNat, List.getElem?_cons_zero, map_get, -List.map_take, -List.map_drop, take_map, drop_map, upd_ne, frOf_set, frOf_get, frOf_getD, encInt, encLInt, encLLInt, t1, t3, t4, t13, t14, t15, t23, t24, t25, hi, hwi, hq, hwk, e1, he, hile, ht1]
      refine .ret _ _ (Or.inl ⟨_, _, rfl, (by first | rfl | assumption | simp [upd, *]), ?_⟩); exact allB_no hi (by simp [rankP, h7])
    · by_cases ht2 : isWayB a_ranked ((k0 : Int) + 1) (nth (nth a_ranked k0) i) = true
      · cases hany : ((nth a_ranked k0).take i).any fun q => decide (q = nth (nth a_ranked k0) i)
        · simp -implicitDefEqProofs [r16_0, r16_1, r16_2, r16_3, r16_4, r16_5, r16_6, r16_7, r16_8, r16_9, r16_10, r16_11, r16_12, r16_13, r16_14, r16_15, l16_0, ha0, ha1, call51, callz51, e51, call52, callz52, e52, call53, callz53, e53, call54, callz54, e54, -List.getElem?_map, -getElem?_pos, -Int.pred_toNat, List.getElem?_cons_zero, map_get, -List.map_take, -List.map_drop, take_map, drop_map, upd_ne, frOf_set, frOf_get, frOf_getD, encInt, encLInt, encLLInt, t1, t3, t4, t13, t14, t15, t23, t24, t25, hi, hwi, hq, hwk, e1, he, hile, ht1, ht2, hany]
          refine .go _ _ ⟨_, _, rfl, (by first | rfl | assumption | simp [upd, *]), (by first | rfl | assumption | simp [upd, *]), (by first | rfl | assumption | simp [upd, *]), (by first | rfl | assumption | simp [upd, *]), (by first | rfl | assumption | simp [upd, *]), (by first | rfl | assumption | simp [upd, *]), (by first | rfl | assumption | simp [upd, *]), (by first | rfl | assumption | simp [upd, *]), (by first | rfl | assumption | simp [upd, *]), rfl, ?_⟩; rw [allB_succ, hf, Bool.true_and]; simp only [rankP, ht2, hany, Bool.not_false, Bool.and_self]
        · simp -implicitDefEqProofs [r16_0, r16_1, r16_2, r16_3, r16_4, r16_5, r16_6, r16_7, r16_8, r16_9, r16_10, r16_11, r16_12, r16_13, r16_14, r16_15, l16_0, ha0, ha1, call51, callz51, e51, call52, callz52, e52, call53, callz53, e53, call54, callz54, e54, -List.getElem?_map, -getElem?_pos, -Int.pred_toNat, List.getElem?_cons_zero, map_get, -List.map_take, -List.map_drop, take_map, drop_map, upd_ne, frOf_set, frOf_get, frOf_getD, encInt, encLInt, encLLInt, t1, t3, t4, t13, t14, t15, t23, t24, t25, hi, hwi, hq, hwk, e1, he, hile, ht1, ht2, hany]
          refine .ret _ _ (Or.inl ⟨_, _, rfl, (by first | rfl | assumption | simp [upd, *]), ?_⟩); exact allB_no hi (by simp only [rankP, hany, Bool.not_true, Bool.and_false])
      · simp -implicitDefEqProofs [r16_0, r16_1, r16_2, r16_3, r16_4, r16_5, r16_6, r16_7, r16_8, r16_9, r16_10, r16_11, r16_12, r16_13, r16_14, r16_15, l16_0, ha0, ha1, call51, callz51, e51, call52, callz52, e52, call53, callz53, e53, call54, callz54, e54, -List.getElem?_map, -getElem?_pos, -Int.pred_toNat, List.getElem?_cons_zero, map_get, -List.map_take, -List.map_drop, take_map, drop_map, upd_ne, frOf_set, frOf_get, frOf_getD, encInt, encLInt, encLLInt, t1, t3, t4, t13, t14, t15, t23, t24, t25, hi, hwi, hq, hwk, e1, he, hile, ht1, ht2]
        refine .ret _ _ (Or.inl ⟨_, _, rfl, (by first | rfl | assumption | simp [upd, *]), ?_⟩); exact allB_no hi (by simp [rankP, ht2])
  · rintro fr S ⟨f, G, rfl, t1, t3, t4, t13, t14, t15, t23, t24, t25, rfl, hf⟩
    simp -implicitDefEqProofs [r16_0, r16_1, r16_2, r16_3, r16_4, r16_5, r16_6, r16_7, r16_8, r16_9, r16_10, r16_11, r16_12, r16_13, r16_14, r16_15, l16_0, ha0, ha1, call51, callz51, e51, call52, callz52, e52, call53, callz53, e53, call54, callz54, e54, -List.getElem?_map, -getElem?_pos, -Int.pred_toNat, List.getElem?_cons_zero, map_get, -List.map_take, -List.map_drop, take_map, drop_map, upd_ne, frOf_set, frOf_get, frOf_getD, encInt, encLInt, encLLInt, t1, t3, t4, t13, t14, t15, t23, t24, t25]
    refine .exit _ _ _ (Or.inr ⟨_, _, rfl, (by first | rfl | assumption | simp [upd, *]), (by first | rfl | assumption | simp [upd, *]), (by first | rfl | assumption | simp [upd, *]), (by first | rfl | assumption | simp [upd, *]), ?_⟩)
    first | trivial | assumption | simp [*]
def I16_1 (a_ranked : (List (List (List Int))))  (i : Nat) (fr : Fr) (S : St) : Prop := ∃ f : Nat → AV, ∃ G : St, fr = frOf 50 f ∧ f 1 = .ptr 0 0 0 ∧ f 13 = .ts .imm 1 (a_ranked.map (encLLInt .imm)) ∧ f 14 = .int .i64 a_ranked.length ∧ f 15 = .int .i64 i ∧ S = some ⟨.box, 1, [[.ts .imm 1 (a_ranked.map (encLLInt .imm))]]⟩ :: G ∧ allB i (ranksP a_ranked) = true
def R16_1 (a_ranked : (List (List (List Int))))  (r : Option (Ex × Fr × St)) : Prop := (∃ f : Nat → AV, ∃ G : St, r = some (.ret, frOf 50 f, some ⟨.box, 1, [[.ts .imm 1 (a_ranked.map (encLLInt .imm))]]⟩ :: G) ∧ f 2 = .bool false ∧ allB a_ranked.length (ranksP a_ranked) = false) ∨ (∃ f : Nat → AV, ∃ G : St, r = some (.exit 0, frOf 50 f, some ⟨.box, 1, [[.ts .imm 1 (a_ranked.map (encLLInt .imm))]]⟩ :: G) ∧ allB a_ranked.length (ranksP a_ranked) = true)
theorem L16_1 (a_ranked : (List (List (List Int)))) (ha0 : a_ranked.length ≤ 1048576) (ha1 : smsLLInt a_ranked)  (hsm : a_ranked.length ≤ 5) : ∀ i fr S, i ≤ a_ranked.length → I16_1 a_ranked  i fr S → R16_1 a_ranked  (evCL T 0 (.loop l16_1) fr S) := by
  refine loopQ _ _ _ ?_ ?_
  · rintro i fr S hi ⟨f, G, rfl, t1, t13, t14, t15, rfl, hf⟩
    have hwi : IntKind.i64.wrap ((i : Int) + 1) = (i : Int) + 1 := wrap64 (by omega) (by omega)
    obtain ⟨hq0, hq1⟩ := ha1 _ (nth_mem hi)
    by_cases hc6 : (6 : Int) < ((nth a_ranked i).length : Int)
    · have hc7 : ¬ ((nth a_ranked i).length ≤ 6) := by omega
      simp -implicitDefEqProofs [r16_0, r16_1, r16_2, r16_3, r16_4, r16_5, r16_6, r16_7, r16_8, r16_9, r16_10, r16_11, r16_12, r16_13, r16_14, r16_15, l16_1, ha0, ha1, call51, callz51, e51, call52, callz52, e52, call53, callz53, e53, call54, callz54, e54, -List.getElem?_map, -getElem?_pos, -Int.pred_toNat, List.getElem?_cons_zero, map_get, -List.map_take, -List.map_drop, take_map, drop_map, upd_ne, frOf_set, frOf_get, frOf_getD, encInt, encLInt, encLLInt, t1, t13, t14, t15, hi, hwi, hc6]
      refine .ret _ _ (Or.inl ⟨_, _, rfl, (by first | rfl | assumption | simp [upd, *]), ?_⟩); exact allB_no hi (by simp [ranksP, hc7])
    have hc7 : (nth a_ranked i).length ≤ 6 := by omega
    simp -implicitDefEqProofs [r16_0, r16_1, r16_2, r16_3, r16_4, r16_5, r16_6, r16_7, r16_8, r16_9, r16_10, r16_11, r16_12, r16_13, r16_14, r16_15, l16_1, ha0, ha1, call51, callz51, e51, call52, callz52, e52, call53, callz53, e53, call54, callz54, e54, -List.getElem?_map, -getElem?_pos, -Int.pred_toNat, List.getElem?_cons_zero, map_get, -List.map_take, -List.map_drop, take_map, drop_map, upd_ne, frOf_set, frOf_get, frOf_getD, encInt, encLInt, encLLInt, t1, t13, t14, t15, hi, hwi, hc6]
    generalize hr : evCL T 0 (.loop l16_0) _ _ = r
    have h : R16_0 a_ranked i r := by rw [← hr]; exact L16_0 a_ranked ha0 ha1 i hi hq0 hq1 hsm (0) _ _ (by omega) ⟨_, _, rfl, (by simp [upd, *]), (by simp [upd, *]), (by simp [upd, *]), (by simp [upd, *]), (by simp [upd, *]), (by simp [upd, *]), (by simp [upd, *]), (by simp [upd, *]), (by simp [upd, *]), rfl, by first | trivial | assumption | simp⟩
    clear hr
    rcases h with h | h
    · obtain ⟨f0, G, rfl, u0_2, hf0⟩ := h
      simp -implicitDefEqProofs [r16_0, r16_1, r16_2, r16_3, r16_4, r16_5, r16_6, r16_7, r16_8, r16_9, r16_10, r16_11, r16_12, r16_13, r16_14, r16_15, l16_1, ha0, ha1, call51, callz51, e51, call52, callz52, e52, call53, callz53, e53, call54, callz54, e54, -List.getElem?_map, -getElem?_pos, -Int.pred_toNat, List.getElem?_cons_zero, map_get, -List.map_take, -List.map_drop, take_map, drop_map, upd_ne, frOf_set, frOf_get, frOf_getD, encInt, encLInt, encLLInt, t1, t13, t14, t15, u0_2]
      refine .ret _ _ (Or.inl ⟨_, _, rfl, (by first | rfl | assumption | simp [upd, *]), ?_⟩); exact allB_no hi (by simp [ranksP, hf0])
    obtain ⟨f0, G, rfl, u0_1, u0_13, u0_14, u0_15, hf0⟩ := h
    simp -implicitDefEqProofs [r16_0, r16_1, r16_2, r16_3, r16_4, r16_5, r16_6, r16_7, r16_8, r16_9, r16_10, r16_11, r16_12, r16_13, r16_14, r16_15, l16_1, ha0, ha1, call51, callz51, e51, call52, callz52, e52, call53, callz53, e53, call54, callz54, e54, -List.getElem?_map, -getElem?_pos, -Int.pred_toNat, List.getElem?_cons_zero, map_get, -List.map_take, -List.map_drop, take_map, drop_map, upd_ne, frOf_set, frOf_get, frOf_getD, encInt, encLInt, encLLInt, t1, t13, t14, t15, hi, hwi, u0_1, u0_13, u0_14, u0_15]
    refine .go _ _ ⟨_, _, rfl, (by first | rfl | assumption | simp [upd, *]), (by first | rfl | assumption | simp [upd, *]), (by first | rfl | assumption | simp [upd, *]), (by first | rfl | assumption | simp [upd, *]), rfl, ?_⟩; rw [allB_succ, hf]; simp [ranksP, hf0, hc7]
  · rintro fr S ⟨f, G, rfl, t1, t13, t14, t15, rfl, hf⟩
    simp -implicitDefEqProofs [r16_0, r16_1, r16_2, r16_3, r16_4, r16_5, r16_6, r16_7, r16_8, r16_9, r16_10, r16_11, r16_12, r16_13, r16_14, r16_15, l16_1, ha0, ha1, call51, callz51, e51, call52, callz52, e52, call53, callz53, e53, call54, callz54, e54, -List.getElem?_map, -getElem?_pos, -Int.pred_toNat, List.getElem?_cons_zero, map_get, -List.map_take, -List.map_drop, take_map, drop_map, upd_ne, frOf_set, frOf_get, frOf_getD, encInt, encLInt, encLLInt, t1, t13, t14, t15]
    refine .exit _ _ _ (Or.inr ⟨_, _, rfl, ?_⟩)
    first | trivial | assumption | simp [*]
theorem e16 (a_ranked : (List (List (List Int)))) (ha0 : a_ranked.length ≤ 1048576) (ha1 : smsLLInt a_ranked) : evFL T 16 [.agg [.ts .imm 1 (a_ranked.map (encLLInt .imm))]] [] = some (.bool (sppB (⟨a_ranked⟩ : Spp)), []) := by
  rw [evFL_at fn16 (by simp)]
  cases hn : inR (a_ranked.length : Int) 1 5
  · simp -implicitDefEqProofs [c16, r16_0, r16_1, r16_2, r16_3, r16_4, r16_5, r16_6, r16_7, r16_8, r16_9, r16_10, r16_11, r16_12, r16_13, r16_14, r16_15, ha0, ha1, call51, callz51, e51, call52, callz52, e52, call53, callz53, e53, call54, callz54, e54, -List.getElem?_map, -getElem?_pos, -Int.pred_toNat, List.getElem?_cons_zero, map_get, -List.map_take, -List.map_drop, take_map, drop_map, upd_ne, frOf_set, frOf_get, frOf_getD, encInt, encLInt, encLLInt, hn, sppB]
  have hsm : a_ranked.length ≤ 5 := by simp [inR] at hn; omega
  simp -implicitDefEqProofs [c16, r16_0, r16_1, r16_2, r16_3, r16_4, r16_5, r16_6, r16_7, r16_8, r16_9, r16_10, r16_11, r16_12, r16_13, r16_14, r16_15, ha0, ha1, call51, callz51, e51, call52, callz52, e52, call53, callz53, e53, call54, callz54, e54, -List.getElem?_map, -getElem?_pos, -Int.pred_toNat, List.getElem?_cons_zero, map_get, -List.map_take, -List.map_drop, take_map, drop_map, upd_ne, frOf_set, frOf_get, frOf_getD, encInt, encLInt, encLLInt, hn]
  generalize hr : evCL T 0 (.loop l16_1) _ _ = r
  have h : R16_1 a_ranked  r := by rw [← hr]; exact L16_1 a_ranked ha0 ha1 hsm (0) _ _ (by omega) ⟨_, _, rfl, (by simp [upd, *]), (by simp [upd, *]), (by simp [upd, *]), (by simp [upd, *]), rfl, by first | trivial | assumption | simp⟩
  clear hr
  rcases h with h | h
  · obtain ⟨f1, G, rfl, u1_2, hf1⟩ := h
    simp -implicitDefEqProofs [r16_0, r16_1, r16_2, r16_3, r16_4, r16_5, r16_6, r16_7, r16_8, r16_9, r16_10, r16_11, r16_12, r16_13, r16_14, r16_15, ha0, ha1, call51, callz51, e51, call52, callz52, e52, call53, callz53, e53, call54, callz54, e54, -List.getElem?_map, -getElem?_pos, -Int.pred_toNat, List.getElem?_cons_zero, map_get, -List.map_take, -List.map_drop, take_map, drop_map, upd_ne, frOf_set, frOf_get, frOf_getD, encInt, encLInt, encLLInt, u1_2, hf1, sppB]
  obtain ⟨f1, G, rfl, hf1⟩ := h
  simp -implicitDefEqProofs [r16_0, r16_1, r16_2, r16_3, r16_4, r16_5, r16_6, r16_7, r16_8, r16_9, r16_10, r16_11, r16_12, r16_13, r16_14, r16_15, ha0, ha1, call51, callz51, e51, call52, callz52, e52, call53, callz53, e53, call54, callz54, e54, -List.getElem?_map, -getElem?_pos, -Int.pred_toNat, List.getElem?_cons_zero, map_get, -List.map_take, -List.map_drop, take_map, drop_map, upd_ne, frOf_set, frOf_get, frOf_getD, encInt, encLInt, encLLInt, hf1, sppB, hn]
-- impl.areChosen
@[simp] theorem call59 {m : Nat} (args : List AV) (S : St) : evCall T m (evFL T) 59 args S = lendC (evFL T 59) S (lendAll S i59.pes args) := evCall0 fn59 rfl rfl args S
@[simp] theorem callz59 (args : List AV) (S : St) : evCallFz T (evFL T) 59 args S = lendZ (evFL T 59) S i59.res (lendAll S i59.pes args) := evCallFz0 fn59 rfl rfl args S
@[simp] theorem pes59 : i59.pes = [[1], [1]] := rfl
@[simp] theorem body59 : i59.body = c59 := rfl
@[simp] theorem kind59 : i59.kind = 0 := rfl
@[simp] theorem tree59 : i59.tree = false := rfl
@[simp] theorem ntmps59 : i59.ntmps = 36 := rfl
@[simp] theorem results59 : i59.results = [(ResultVar.tmp 4)] := rfl
@[simp] theorem res59 : i59.res = [[0]] := rfl
def I59_0 (a_ranked : (List (List (List Int)))) (c : (List Int))  (i : Nat) (fr : Fr) (S : St) : Prop := ∃ f : Nat → AV, fr = frOf 36 f ∧ f 2 = .ptr 0 0 0 ∧ f 18 = .ts .imm 1 (c.map encInt) ∧ f 19 = .int .i64 a_ranked.length ∧ f 20 = .int .i64 i ∧ S = [some ⟨.box, 1, [[.ts .imm 1 (a_ranked.map (encLLInt .imm))]]⟩] ∧ allB i (fun i => inR (nth c i) (-1) (((nth a_ranked i).length : Int) - 1)) = true
def R59_0 (a_ranked : (List (List (List Int)))) (c : (List Int))  (r : Option (Ex × Fr × St)) : Prop := (∃ f : Nat → AV, r = some (.ret, frOf 36 f, [some ⟨.box, 1, [[.ts .imm 1 (a_ranked.map (encLLInt .imm))]]⟩]) ∧ f 4 = .bool false ∧ chosenB a_ranked c = false) ∨ (∃ f : Nat → AV, r = some (.exit 0, frOf 36 f, [some ⟨.box, 1, [[.ts .imm 1 (a_ranked.map (encLLInt .imm))]]⟩]) ∧ chosenB a_ranked c = true)
theorem L59_0 (a_ranked : (List (List (List Int)))) (c : (List Int)) (ha0 : a_ranked.length ≤ 1048576) (ha1 : smsLLInt a_ranked) (h0 : c.length ≤ 1048576)  (hl : c.length = a_ranked.length) : ∀ i fr S, i ≤ a_ranked.length → I59_0 a_ranked c  i fr S → R59_0 a_ranked c  (evCL T 0 (.loop l59_0) fr S) := by
  refine loopQ _ _ _ ?_ ?_
  · rintro i fr S hi ⟨f, rfl, t2, t18, t19, t20, rfl, hf⟩
    have hwi : IntKind.i64.wrap ((i : Int) + 1) = (i : Int) + 1 := wrap64 (by omega) (by omega)
    have hic : i < c.length := by omega
    have hia : i < a_ranked.length := by omega
    have hib : (i : Int) < (a_ranked.length : Int) := by omega
    have hrl := (ha1 _ (nth_mem hia)).1
    have hwr : IntKind.i64.wrap (((nth a_ranked i).length : Int) - 1) = ((nth a_ranked i).length : Int) - 1 := wrap64 (by omega) (by omega)
    cases hc : inR (nth c i) (-1) (((nth a_ranked i).length : Int) - 1)
    · simp -implicitDefEqProofs [r59_0, r59_1, r59_2, r59_3, r59_4, r59_5, r59_6, r59_7, r59_8, r59_9, l59_0, ha0, ha1, h0, call16, callz16, e16, call51, callz51, e51, -List.getElem?_map, -getElem?_pos, -Int.pred_toNat, List.getElem?_cons_zero, map_get, -List.map_take, -List.map_drop, take_map, drop_map, upd_ne, frOf_set, frOf_get, frOf_getD, encInt, encLLInt, t2, t18, t19, t20, hi, hic, hwi, hia, hib, hwr, hc]
      refine .ret _ _ (Or.inl ⟨_, rfl, (by first | rfl | assumption | simp [upd, *]), ?_⟩); rw [← Bool.not_eq_true]; intro h9; have h8 := (chosen_lt h9).2 i hic; simp [inR] at hc; omega
    · simp -implicitDefEqProofs [r59_0, r59_1, r59_2, r59_3, r59_4, r59_5, r59_6, r59_7, r59_8, r59_9, l59_0, ha0, ha1, h0, call16, callz16, e16, call51, callz51, e51, -List.getElem?_map, -getElem?_pos, -Int.pred_toNat, List.getElem?_cons_zero, map_get, -List.map_take, -List.map_drop, take_map, drop_map, upd_ne, frOf_set, frOf_get, frOf_getD, encInt, encLLInt, t2, t18, t19, t20, hi, hic, hwi, hia, hib, hwr, hc]
      refine .go _ _ ⟨_, rfl, (by first | rfl | assumption | simp [upd, *]), (by first | rfl | assumption | simp [upd, *]), (by first | rfl | assumption | simp [upd, *]), (by first | rfl | assumption | simp [upd, *]), rfl, ?_⟩; rw [allB_succ, hf]; simp [hc]
  · rintro fr S ⟨f, rfl, t2, t18, t19, t20, rfl, hf⟩
    simp -implicitDefEqProofs [r59_0, r59_1, r59_2, r59_3, r59_4, r59_5, r59_6, r59_7, r59_8, r59_9, l59_0, ha0, ha1, h0, call16, callz16, e16, call51, callz51, e51, -List.getElem?_map, -getElem?_pos, -Int.pred_toNat, List.getElem?_cons_zero, map_get, -List.map_take, -List.map_drop, take_map, drop_map, upd_ne, frOf_set, frOf_get, frOf_getD, encInt, encLLInt, t2, t18, t19, t20]
    refine .exit _ _ _ (Or.inr ⟨_, rfl, ?_⟩)
    exact chosen_of hl (by rw [hl]; exact hf)
theorem e59 (a_ranked : (List (List (List Int)))) (c : (List Int)) (ha0 : a_ranked.length ≤ 1048576) (ha1 : smsLLInt a_ranked) (h0 : c.length ≤ 1048576) : evFL T 59 [.agg [.ts .imm 1 (a_ranked.map (encLLInt .imm))], .ts .imm 1 (c.map encInt)] [] = some (.bool (sppB (⟨a_ranked⟩ : Spp) && chosenB a_ranked c), []) := by
  rw [evFL_at fn59 (by simp)]
  cases hg : sppB (⟨a_ranked⟩ : Spp)
  · simp -implicitDefEqProofs [c59, r59_0, r59_1, r59_2, r59_3, r59_4, r59_5, r59_6, r59_7, r59_8, r59_9, ha0, ha1, h0, call16, callz16, e16, call51, callz51, e51, -List.getElem?_map, -getElem?_pos, -Int.pred_toNat, List.getElem?_cons_zero, map_get, -List.map_take, -List.map_drop, take_map, drop_map, upd_ne, frOf_set, frOf_get, frOf_getD, encInt, encLLInt, hg]
  by_cases hl : c.length ≠ a_ranked.length
  · have hl2 : ¬ (c.length : Int) = (a_ranked.length : Int) := by omega
    simp -implicitDefEqProofs [c59, r59_0, r59_1, r59_2, r59_3, r59_4, r59_5, r59_6, r59_7, r59_8, r59_9, ha0, ha1, h0, call16, callz16, e16, call51, callz51, e51, -List.getElem?_map, -getElem?_pos, -Int.pred_toNat, List.getElem?_cons_zero, map_get, -List.map_take, -List.map_drop, take_map, drop_map, upd_ne, frOf_set, frOf_get, frOf_getD, encInt, encLLInt, hg, hl, hl2, chosenB]
  replace hl : c.length = a_ranked.length := by omega
  simp -implicitDefEqProofs [c59, r59_0, r59_1, r59_2, r59_3, r59_4, r59_5, r59_6, r59_7, r59_8, r59_9, ha0, ha1, h0, call16, callz16, e16, call51, callz51, e51, -List.getElem?_map, -getElem?_pos, -Int.pred_toNat, List.getElem?_cons_zero, map_get, -List.map_take, -List.map_drop, take_map, drop_map, upd_ne, frOf_set, frOf_get, frOf_getD, encInt, encLLInt, hg, hl]
  generalize hr : evCL T 0 (.loop l59_0) _ _ = r
  have h : R59_0 a_ranked c  r := by rw [← hr]; exact L59_0 a_ranked c ha0 ha1 h0 hl (0) _ _ (by omega) ⟨_, rfl, (by simp [upd, *]), (by simp [upd, *]), (by simp [upd, *]), (by simp [upd, *]), rfl, by first | trivial | assumption | simp⟩
  clear hr
  rcases h with h | h
  · obtain ⟨f0, rfl, u0_4, hf0⟩ := h
    simp -implicitDefEqProofs [r59_0, r59_1, r59_2, r59_3, r59_4, r59_5, r59_6, r59_7, r59_8, r59_9, ha0, ha1, h0, call16, callz16, e16, call51, callz51, e51, -List.getElem?_map, -getElem?_pos, -Int.pred_toNat, List.getElem?_cons_zero, map_get, -List.map_take, -List.map_drop, take_map, drop_map, upd_ne, frOf_set, frOf_get, frOf_getD, encInt, encLLInt, u0_4, hf0]
  obtain ⟨f0, rfl, hf0⟩ := h
  simp -implicitDefEqProofs [r59_0, r59_1, r59_2, r59_3, r59_4, r59_5, r59_6, r59_7, r59_8, r59_9, ha0, ha1, h0, call16, callz16, e16, call51, callz51, e51, -List.getElem?_map, -getElem?_pos, -Int.pred_toNat, List.getElem?_cons_zero, map_get, -List.map_take, -List.map_drop, take_map, drop_map, upd_ne, frOf_set, frOf_get, frOf_getD, encInt, encLLInt, hf0, hg]
-- impl.bestFor$1
@[simp] theorem call92 {m : Nat} (args : List AV) (S : St) : evCall T m (evFL T) 92 args S = lendC (evFL T 92) S (lendAll S i92.pes args) := evCall0 fn92 rfl rfl args S
@[simp] theorem callz92 (args : List AV) (S : St) : evCallFz T (evFL T) 92 args S = lendZ (evFL T 92) S i92.res (lendAll S i92.pes args) := evCallFz0 fn92 rfl rfl args S
@[simp] theorem pes92 : i92.pes = [[1], [0], [0]] := rfl
@[simp] theorem body92 : i92.body = c92 := rfl
@[simp] theorem kind92 : i92.kind = 0 := rfl
@[simp] theorem tree92 : i92.tree = false := rfl
@[simp] theorem ntmps92 : i92.ntmps = 34 := rfl
@[simp] theorem results92 : i92.results = [(ResultVar.tmp 4)] := rfl
@[simp] theorem res92 : i92.res = [[0]] := rfl
theorem e92 (p : (List Int)) (c : List Int) (rk : List (List (List Int))) (ha0 : rk.length ≤ 1048576) (ha1 : smsLLInt rk) (h0 : c.length ≤ 1048576) (h9 : p.length ≤ 1048576) (hp2 : 2 ≤ p.length) (hone : p.length ≠ 2 → 1 ≤ nth p 1 ∧ nth p 1 ≤ (rk.length : Int)) (hcl : c.length = rk.length) (hcb : ∀ i, i < c.length → -1 ≤ nth c i ∧ nth c i < ((nth rk i).length : Int)) : evFL T 92 [.ts .imm 1 (p.map encInt), .tp .imm 1 [[.ts .imm 1 (c.map encInt)]] 0 0, .tp .imm 1 [[.ts .imm 1 (rk.map (encLLInt .imm))]] 0 0] [] = some (.bool (availB rk c p), []) := by
  rw [evFL_at fn92 (by simp)]
  by_cases h2 : p.length = 2
  · have h2i : (p.length : Int) = 2 := by omega
    have hav : availB rk c p = true := by simp only [availB, h2, decide_true, Bool.true_or]
    simp -implicitDefEqProofs [c92, r92_0, r92_1, r92_2, r92_3, r92_4, ha0, ha1, h0, h9, hp2, hone, hcl, hcb, call55, callz55, e55, -List.getElem?_map, -getElem?_pos, -Int.pred_toNat, List.getElem?_cons_zero, map_get, -List.map_take, -List.map_drop, take_map, drop_map, upd_ne, frOf_set, frOf_get, frOf_getD, encInt, encLInt, encLLInt, -List.drop_one, h2i, hav]
  obtain ⟨ho1, ho2⟩ := hone h2
  have h2i : ¬ (p.length : Int) = 2 := by omega
  have hc1 : 1 < p.length := by omega
  have hc2 : (1 : Int) ≤ (p.length : Int) := by omega
  have hc3 : (1 : Int) < (p.length : Int) := by omega
  have hQ : (nth p 1 - 1).toNat < rk.length := by omega
  have hQc : (nth p 1 - 1).toNat < c.length := by omega
  have hz1 : 0 ≤ nth p 1 - 1 := by omega
  have hz4 : 1 ≤ nth p 1 := by omega
  have hz2 : nth p 1 - 1 < (rk.length : Int) := by omega
  have hz3 : nth p 1 - 1 < (c.length : Int) := by omega
  have hwn : IntKind.i64.wrap (nth p 1 - 1) = nth p 1 - 1 := wrap64 (by omega) (by omega)
  have hz5 : nth p 1 ≤ (c.length : Int) := by omega
  have hcb := hcb (nth p 1 - 1).toNat hQc
  by_cases hv : 0 ≤ (nth c (nth p 1 - 1).toNat)
  · obtain ⟨hs0, hs1⟩ := ha1 _ (nth_mem hQ)
    have hvl : (nth c (nth p 1 - 1).toNat).toNat < (nth rk (nth p 1 - 1).toNat).length := by omega
    have hsm := hs1 _ (nth_mem hvl)
    simp only [smLInt] at hsm
    have hvb : (nth c (nth p 1 - 1).toNat) < ((nth rk (nth p 1 - 1).toNat).length : Int) := hcb.2
    have e1 := e55 (nth (nth rk (nth p 1 - 1).toNat) (nth c (nth p 1 - 1).toNat).toNat) (p.drop 1) hsm (by rw [List.length_drop]; omega)
    by_cases he : nth (nth rk (nth p 1 - 1).toNat) (nth c (nth p 1 - 1).toNat).toNat = p.drop 1
    · have hav : availB rk c p = true := by simp only [availB, h2, hv, he, decide_true, decide_false, Bool.and_self, Bool.or_true]
      rw [decide_eq_true he] at e1
      simp -implicitDefEqProofs [c92, r92_0, r92_1, r92_2, r92_3, r92_4, ha0, ha1, h0, h9, hp2, hone, hcl, hcb, call55, callz55, e55, -List.getElem?_map, -getElem?_pos, -Int.pred_toNat, List.getElem?_cons_zero, map_get, -List.map_take, -List.map_drop, take_map, drop_map, upd_ne, frOf_set, frOf_get, frOf_getD, encInt, encLInt, encLLInt, -List.drop_one, h2i, hc1, hc2, hc3, hQ, hQc, hz1, hz2, hz3, hz4, hz5, ho2, hwn, hv, hvl, hvb, e1, hav]
    · have hav : availB rk c p = false := by simp only [availB, h2, hv, he, decide_true, decide_false, Bool.and_false, Bool.or_false]
      rw [decide_eq_false he] at e1
      simp -implicitDefEqProofs [c92, r92_0, r92_1, r92_2, r92_3, r92_4, ha0, ha1, h0, h9, hp2, hone, hcl, hcb, call55, callz55, e55, -List.getElem?_map, -getElem?_pos, -Int.pred_toNat, List.getElem?_cons_zero, map_get, -List.map_take, -List.map_drop, take_map, drop_map, upd_ne, frOf_set, frOf_get, frOf_getD, encInt, encLInt, encLLInt, -List.drop_one, h2i, hc1, hc2, hc3, hQ, hQc, hz1, hz2, hz3, hz4, hz5, ho2, hwn, hv, hvl, hvb, e1, hav]
  · have hav : availB rk c p = false := by simp only [availB, h2, hv, decide_false, Bool.false_and, Bool.or_false]
    simp -implicitDefEqProofs [c92, r92_0, r92_1, r92_2, r92_3, r92_4, ha0, ha1, h0, h9, hp2, hone, hcl, hcb, call55, callz55, e55, -List.getElem?_map, -getElem?_pos, -Int.pred_toNat, List.getElem?_cons_zero, map_get, -List.map_take, -List.map_drop, take_map, drop_map, upd_ne, frOf_set, frOf_get, frOf_getD, encInt, encLInt, encLLInt, -List.drop_one, h2i, hc1, hc2, hc3, hQ, hQc, hz1, hz2, hz3, hz4, hz5, ho2, hwn, hv, hav]
-- impl.bestFor
@[simp] theorem call60 {m : Nat} (args : List AV) (S : St) : evCall T m (evFL T) 60 args S = lendC (evFL T 60) S (lendAll S i60.pes args) := evCall0 fn60 rfl rfl args S
@[simp] theorem callz60 (args : List AV) (S : St) : evCallFz T (evFL T) 60 args S = lendZ (evFL T 60) S i60.res (lendAll S i60.pes args) := evCallFz0 fn60 rfl rfl args S
@[simp] theorem pes60 : i60.pes = [[1], [1], [0]] := rfl
@[simp] theorem body60 : i60.body = c60 := rfl
@[simp] theorem kind60 : i60.kind = 0 := rfl
@[simp] theorem tree60 : i60.tree = false := rfl
@[simp] theorem ntmps60 : i60.ntmps = 15 := rfl
@[simp] theorem results60 : i60.results = [(ResultVar.tmp 6)] := rfl
@[simp] theorem res60 : i60.res = [[0]] := rfl
theorem e60 (a_ranked : (List (List (List Int)))) (c : (List Int)) (n : Int) (ha0 : a_ranked.length ≤ 1048576) (ha1 : smsLLInt a_ranked) (h0 : c.length ≤ 1048576) (hg : sppB (⟨a_ranked⟩ : Spp) = true) (hcl : c.length = a_ranked.length) (hcb : ∀ i, i < c.length → -1 ≤ nth c i ∧ nth c i < ((nth a_ranked i).length : Int)) (h1 : 1 ≤ n) (h2n : n ≤ (a_ranked.length : Int)) : evFL T 60 [.agg [.ts .imm 1 (a_ranked.map (encLLInt .imm))], .ts .imm 1 (c.map encInt), .int .i64 n] [] = some (.int .i64 (bestOf a_ranked c n), []) := by
  rw [evFL_at fn60 (by simp)]
  have hk : (n - 1).toNat < a_ranked.length := by omega
  have hzz : 0 ≤ n - 1 := by omega
  have hzz2 : n - 1 < (a_ranked.length : Int) := by omega
  have hwnn : IntKind.i64.wrap (n - 1) = n - 1 := wrap64 (by omega) (by omega)
  obtain ⟨hr0, hr1⟩ := ha1 _ (nth_mem hk)
  have he := e91 (nth a_ranked (n - 1).toNat) 92 [.tp .imm 1 [[.ts .imm 1 (c.map encInt)]] 0 0, .tp .imm 1 [[.ts .imm 1 (a_ranked.map (encLLInt .imm))]] 0 0] (availB a_ranked c) (fun q hq m S => by
    have h8 := hr1 q hq
    simp only [smLInt] at h8
    obtain ⟨i, hi, e⟩ := List.getElem_of_mem hq
    rw [← nth_eq hi] at e
    have hway := way_facts (spp_way hg (k := (n - 1).toNat) hk hi)
    dsimp only at hway
    rw [e] at hway
    have h7 := e92 q c a_ranked ha0 ha1 h0 h8 hway.1 hway.2 hcl hcb
    simp -implicitDefEqProofs [h7]) (by omega)
  simp -implicitDefEqProofs [c60, r60_0, r60_1, ha0, ha1, h0, hg, hcl, hcb, h1, h2n, call91, callz91, e91, call92, callz92, e92, -List.getElem?_map, -getElem?_pos, -Int.pred_toNat, List.getElem?_cons_zero, map_get, -List.map_take, -List.map_drop, take_map, drop_map, upd_ne, frOf_set, frOf_get, frOf_getD, encInt, encLInt, encLLInt, hk, hzz, hzz2, hwnn, he, bestOf]
-- impl.isStable
@[simp] theorem call62 {m : Nat} (args : List AV) (S : St) : evCall T m (evFL T) 62 args S = lendC (evFL T 62) S (lendAll S i62.pes args) := evCall0 fn62 rfl rfl args S
@[simp] theorem callz62 (args : List AV) (S : St) : evCallFz T (evFL T) 62 args S = lendZ (evFL T 62) S i62.res (lendAll S i62.pes args) := evCallFz0 fn62 rfl rfl args S
@[simp] theorem pes62 : i62.pes = [[1], [1]] := rfl
@[simp] theorem body62 : i62.body = c62 := rfl
@[simp] theorem kind62 : i62.kind = 0 := rfl
@[simp] theorem tree62 : i62.tree = false := rfl
@[simp] theorem ntmps62 : i62.ntmps = 22 := rfl
@[simp] theorem results62 : i62.results = [(ResultVar.tmp 4)] := rfl
@[simp] theorem res62 : i62.res = [[0]] := rfl
def I62_0 (a_ranked : (List (List (List Int)))) (c : (List Int))  (i : Nat) (fr : Fr) (S : St) : Prop := ∃ f : Nat → AV, fr = frOf 22 f ∧ f 1 = .ts .imm 1 (c.map encInt) ∧ f 2 = .ptr 0 0 0 ∧ f 7 = .ts .imm 1 (c.map encInt) ∧ f 8 = .int .i64 c.length ∧ f 9 = .int .i64 i ∧ S = [some ⟨.box, 1, [[.ts .imm 1 (a_ranked.map (encLLInt .imm))]]⟩] ∧ allB i (fun i => decide (bestOf a_ranked c ((i : Int) + 1) = nth c i)) = true
def R62_0 (a_ranked : (List (List (List Int)))) (c : (List Int))  (r : Option (Ex × Fr × St)) : Prop := (∃ f : Nat → AV, r = some (.ret, frOf 22 f, [some ⟨.box, 1, [[.ts .imm 1 (a_ranked.map (encLLInt .imm))]]⟩]) ∧ f 4 = .bool false ∧ stableB a_ranked c = false) ∨ (∃ f : Nat → AV, r = some (.exit 0, frOf 22 f, [some ⟨.box, 1, [[.ts .imm 1 (a_ranked.map (encLLInt .imm))]]⟩]) ∧ stableB a_ranked c = true)
theorem L62_0 (a_ranked : (List (List (List Int)))) (c : (List Int)) (ha0 : a_ranked.length ≤ 1048576) (ha1 : smsLLInt a_ranked) (h0 : c.length ≤ 1048576) (hg : sppB (⟨a_ranked⟩ : Spp) = true) (hcl : c.length = a_ranked.length) (hcb : ∀ i, i < c.length → -1 ≤ nth c i ∧ nth c i < ((nth a_ranked i).length : Int))   : ∀ i fr S, i ≤ c.length → I62_0 a_ranked c  i fr S → R62_0 a_ranked c  (evCL T 0 (.loop l62_0) fr S) := by
  refine loopQ _ _ _ ?_ ?_
  · rintro i fr S hi ⟨f, rfl, t1, t2, t7, t8, t9, rfl, hf⟩
    have hwi : IntKind.i64.wrap ((i : Int) + 1) = (i : Int) + 1 := wrap64 (by omega) (by omega)
    have hia : i < a_ranked.length := by omega
    have eb := e60 a_ranked c ((i : Int) + 1) ha0 ha1 h0 hg hcl hcb (by omega) (by omega)
    by_cases hc : bestOf a_ranked c ((i : Int) + 1) = nth c i
    · simp -implicitDefEqProofs [r62_0, r62_1, r62_2, r62_3, r62_4, r62_5, r62_6, r62_7, l62_0, ha0, ha1, h0, hg, hcl, hcb, call60, callz60, e60, -List.getElem?_map, -getElem?_pos, -Int.pred_toNat, List.getElem?_cons_zero, map_get, -List.map_take, -List.map_drop, take_map, drop_map, upd_ne, frOf_set, frOf_get, frOf_getD, encInt, encLLInt, t1, t2, t7, t8, t9, hi, hia, hwi, eb, hc]
      refine .go _ _ ⟨_, rfl, (by first | rfl | assumption | simp [upd, *]), (by first | rfl | assumption | simp [upd, *]), (by first | rfl | assumption | simp [upd, *]), (by first | rfl | assumption | simp [upd, *]), (by first | rfl | assumption | simp [upd, *]), rfl, ?_⟩; rw [allB_succ, hf]; simp [hc]
    · simp -implicitDefEqProofs [r62_0, r62_1, r62_2, r62_3, r62_4, r62_5, r62_6, r62_7, l62_0, ha0, ha1, h0, hg, hcl, hcb, call60, callz60, e60, -List.getElem?_map, -getElem?_pos, -Int.pred_toNat, List.getElem?_cons_zero, map_get, -List.map_take, -List.map_drop, take_map, drop_map, upd_ne, frOf_set, frOf_get, frOf_getD, encInt, encLLInt, t1, t2, t7, t8, t9, hi, hia, hwi, eb, hc]
      refine .ret _ _ (Or.inl ⟨_, rfl, (by first | rfl | assumption | simp [upd, *]), ?_⟩); exact allB_no hi (by simp [hc])
  · rintro fr S ⟨f, rfl, t1, t2, t7, t8, t9, rfl, hf⟩
    simp -implicitDefEqProofs [r62_0, r62_1, r62_2, r62_3, r62_4, r62_5, r62_6, r62_7, l62_0, ha0, ha1, h0, hg, hcl, hcb, call60, callz60, e60, -List.getElem?_map, -getElem?_pos, -Int.pred_toNat, List.getElem?_cons_zero, map_get, -List.map_take, -List.map_drop, take_map, drop_map, upd_ne, frOf_set, frOf_get, frOf_getD, encInt, encLLInt, t1, t2, t7, t8, t9]
    refine .exit _ _ _ (Or.inr ⟨_, rfl, ?_⟩)
    first | trivial | assumption | simp [*]
theorem e62 (a_ranked : (List (List (List Int)))) (c : (List Int)) (ha0 : a_ranked.length ≤ 1048576) (ha1 : smsLLInt a_ranked) (h0 : c.length ≤ 1048576) (hg : sppB (⟨a_ranked⟩ : Spp) = true) (hcl : c.length = a_ranked.length) (hcb : ∀ i, i < c.length → -1 ≤ nth c i ∧ nth c i < ((nth a_ranked i).length : Int)) : evFL T 62 [.agg [.ts .imm 1 (a_ranked.map (encLLInt .imm))], .ts .imm 1 (c.map encInt)] [] = some (.bool (stableB a_ranked c), []) := by
  rw [evFL_at fn62 (by simp)]
  simp -implicitDefEqProofs [c62, r62_0, r62_1, r62_2, r62_3, r62_4, r62_5, r62_6, r62_7, ha0, ha1, h0, hg, hcl, hcb, call60, callz60, e60, -List.getElem?_map, -getElem?_pos, -Int.pred_toNat, List.getElem?_cons_zero, map_get, -List.map_take, -List.map_drop, take_map, drop_map, upd_ne, frOf_set, frOf_get, frOf_getD, encInt, encLLInt]
  generalize hr : evCL T 0 (.loop l62_0) _ _ = r
  have h : R62_0 a_ranked c  r := by rw [← hr]; exact L62_0 a_ranked c ha0 ha1 h0 hg hcl hcb  (0) _ _ (by omega) ⟨_, rfl, (by simp [upd, *]), (by simp [upd, *]), (by simp [upd, *]), (by simp [upd, *]), (by simp [upd, *]), rfl, by first | trivial | assumption | simp⟩
  clear hr
  rcases h with h | h
  · obtain ⟨f0, rfl, u0_4, hf0⟩ := h
    simp -implicitDefEqProofs [r62_0, r62_1, r62_2, r62_3, r62_4, r62_5, r62_6, r62_7, ha0, ha1, h0, hg, hcl, hcb, call60, callz60, e60, -List.getElem?_map, -getElem?_pos, -Int.pred_toNat, List.getElem?_cons_zero, map_get, -List.map_take, -List.map_drop, take_map, drop_map, upd_ne, frOf_set, frOf_get, frOf_getD, encInt, encLLInt, u0_4, hf0] <;> try omega
  obtain ⟨f0, rfl, hf0⟩ := h
  simp -implicitDefEqProofs [r62_0, r62_1, r62_2, r62_3, r62_4, r62_5, r62_6, r62_7, ha0, ha1, h0, hg, hcl, hcb, call60, callz60, e60, -List.getElem?_map, -getElem?_pos, -Int.pred_toNat, List.getElem?_cons_zero, map_get, -List.map_take, -List.map_drop, take_map, drop_map, upd_ne, frOf_set, frOf_get, frOf_getD, encInt, encLLInt, hf0] <;> try omega
-- impl.IsStable
@[simp] theorem call23 {m : Nat} (args : List AV) (S : St) : evCall T m (evFL T) 23 args S = lendC (evFL T 23) S (lendAll S i23.pes args) := evCall0 fn23 rfl rfl args S
@[simp] theorem callz23 (args : List AV) (S : St) : evCallFz T (evFL T) 23 args S = lendZ (evFL T 23) S i23.res (lendAll S i23.pes args) := evCallFz0 fn23 rfl rfl args S
@[simp] theorem pes23 : i23.pes = [[1], [1]] := rfl
@[simp] theorem body23 : i23.body = c23 := rfl
@[simp] theorem kind23 : i23.kind = 0 := rfl
@[simp] theorem tree23 : i23.tree = false := rfl
@[simp] theorem ntmps23 : i23.ntmps = 13 := rfl
@[simp] theorem results23 : i23.results = [(ResultVar.tmp 4), (ResultVar.tmp 5)] := rfl
@[simp] theorem res23 : i23.res = [[0], [0]] := rfl
theorem e23 (a_ranked : (List (List (List Int)))) (c : (List Int)) (ha0 : a_ranked.length ≤ 1048576) (ha1 : smsLLInt a_ranked) (h0 : c.length ≤ 1048576) : evFL T 23 [.agg [.ts .imm 1 (a_ranked.map (encLLInt .imm))], .ts .imm 1 (c.map encInt)] [] = some (.tup [.bool (sppB (⟨a_ranked⟩ : Spp) && (chosenB a_ranked c && stableB a_ranked c)), .bool (sppB (⟨a_ranked⟩ : Spp) && chosenB a_ranked c)], []) := by
  rw [evFL_at fn23 (by simp)]
  by_cases ht1 : sppB (⟨a_ranked⟩ : Spp) = true
  · by_cases ht2 : chosenB a_ranked c = true
    · obtain ⟨hcl, hcb⟩ := chosen_lt ht2
      try dsimp only at hcl hcb
      have eb := e62 a_ranked c ha0 ha1 h0 ht1 hcl hcb
      simp -implicitDefEqProofs [c23, r23_0, r23_1, r23_2, r23_3, ha0, ha1, h0, call59, callz59, e59, call62, callz62, e62, -List.getElem?_map, -getElem?_pos, -Int.pred_toNat, List.getElem?_cons_zero, map_get, -List.map_take, -List.map_drop, take_map, drop_map, upd_ne, frOf_set, frOf_get, frOf_getD, encLLInt, eb, ht1, ht2]
    · simp -implicitDefEqProofs [c23, r23_0, r23_1, r23_2, r23_3, ha0, ha1, h0, call59, callz59, e59, call62, callz62, e62, -List.getElem?_map, -getElem?_pos, -Int.pred_toNat, List.getElem?_cons_zero, map_get, -List.map_take, -List.map_drop, take_map, drop_map, upd_ne, frOf_set, frOf_get, frOf_getD, encLLInt, ht1, ht2]
  · simp -implicitDefEqProofs [c23, r23_0, r23_1, r23_2, r23_3, ha0, ha1, h0, call59, callz59, e59, call62, callz62, e62, -List.getElem?_map, -getElem?_pos, -Int.pred_toNat, List.getElem?_cons_zero, map_get, -List.map_take, -List.map_drop, take_map, drop_map, upd_ne, frOf_set, frOf_get, frOf_getD, encLLInt, ht1]
end Go.Pi.Ytpfoleebeamgpaa.IsStable
