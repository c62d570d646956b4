/- What functions of the program answer, and that the law answers true at every input; no condition -/
import Derived.Test.YthidbgihjhkjaaaGoodRouteTabGoodRoute
import Derived.Test.YthidbgihjhkjaaaPiC
set_option linter.all false
/- Functions of the program, by equations. -/
namespace Go.Pi.Ythidbgihjhkjaaa.GoodRoute
open Go Go.Proofs Go.Pi 
set_option maxRecDepth 100000
set_option linter.unusedSimpArgs false
set_option linter.unusedVariables false
def encInt (x : Int) : List AV := [.int .i64 x]
@[simp] theorem own_encInt (x : Int) : ownOnlyL (encInt x) = true := by simp [encInt, ownOnlyL, ownOnly]
@[simp] theorem setQL_encInt (q : Ql) (x : Int) : setQL q (encInt x) = encInt x := rfl
structure Prefix where
  addr : Int
  len : Int
  deriving Inhabited
@[simp] theorem Prefix.eta (x : Prefix) : (⟨x.addr, x.len⟩ : Prefix) = x := rfl
def encPrefix (x : Prefix) : List AV := [.int .i64 x.addr, .int .i64 x.len]
@[simp] theorem own_encPrefix (x : Prefix) : ownOnlyL (encPrefix x) = true := by simp [encPrefix, ownOnlyL, ownOnly]
@[simp] theorem setQL_encPrefix (q : Ql) (x : Prefix) : setQL q (encPrefix x) = encPrefix x := rfl
def encLInt (q : Ql) (x : (List Int)) : List AV := [.ts q 1 (x.map encInt)]
@[simp] theorem own_encLInt (x : (List Int)) : ownOnlyL (encLInt .own x) = true := by simp [encLInt, ownOnlyL, ownOnly]
@[simp] theorem setQL_encLInt (q q1 : Ql) (x : (List Int)) : setQL q (encLInt q1 x) = encLInt q x := by simp [encLInt, Function.comp_def]
def smLInt (x : (List Int)) : Prop := (x.length ≤ 1048576)
def smsLInt (x : List (List Int)) : Prop := ∀ y ∈ x, smLInt y
def wfLInt (x : (List Int)) : Prop := (x.length ≤ 9223372036854775807)
def wfsLInt (x : List (List Int)) : Prop := ∀ y ∈ x, wfLInt y
def szLInt (x : (List Int)) (l : Int) : Int := szL x.length (l)
theorem szLInt_le (x : (List Int)) (l : Int) (h : 0 ≤ l) : szLInt x l ≤ l ∧ -1 ≤ szLInt x l ∧ (0 ≤ szLInt x l → l ≤ 1048576 → smLInt x) := szL_le x.length l h
structure Attrs where
  origin : Int
  path : (List Int)
  next : Int
  med : Int
  pref : Int
  comms : (List Int)
  deriving Inhabited
@[simp] theorem Attrs.eta (x : Attrs) : (⟨x.origin, x.path, x.next, x.med, x.pref, x.comms⟩ : Attrs) = x := rfl
def encAttrs (q : Ql) (x : Attrs) : List AV := [.int .i64 x.origin, .ts q 1 (x.path.map encInt), .int .i64 x.next, .int .i64 x.med, .int .i64 x.pref, .ts q 1 (x.comms.map encInt)]
@[simp] theorem own_encAttrs (x : Attrs) : ownOnlyL (encAttrs .own x) = true := by simp [encAttrs, ownOnlyL, ownOnly]
@[simp] theorem setQL_encAttrs (q q1 : Ql) (x : Attrs) : setQL q (encAttrs q1 x) = encAttrs q x := by simp [encAttrs, Function.comp_def]
def smAttrs (x : Attrs) : Prop := (x.path.length ≤ 1048576) ∧ (x.comms.length ≤ 1048576)
def smsAttrs (x : List Attrs) : Prop := ∀ y ∈ x, smAttrs y
def wfAttrs (x : Attrs) : Prop := (x.path.length ≤ 9223372036854775807) ∧ (x.comms.length ≤ 9223372036854775807)
def wfsAttrs (x : List Attrs) : Prop := ∀ y ∈ x, wfAttrs y
def szAttrs (x : Attrs) (l : Int) : Int := szThen (szLInt x.path l) fun l => szThen (szLInt x.comms l) fun l => l
theorem szAttrs_le (x : Attrs) (l : Int) (h : 0 ≤ l) : szAttrs x l ≤ l ∧ -1 ≤ szAttrs x l ∧ (0 ≤ szAttrs x l → l ≤ 1048576 → smAttrs x) := by
  simp only [szAttrs, szThen]
  have h0 := szLInt_le x.path (l) (by omega)
  by_cases hc0 : szLInt x.path (l) < 0
  · simp only [hc0, if_true, if_false]; exact ⟨by omega, by omega, fun h => by omega⟩
  have h1 := szLInt_le x.comms (szLInt x.path (l)) (by omega)
  by_cases hc1 : szLInt x.comms (szLInt x.path (l)) < 0
  · simp only [hc0, hc1, if_true, if_false]; exact ⟨by omega, by omega, fun h => by omega⟩
  simp only [hc0, hc1, if_false]
  refine ⟨by omega, by omega, fun h9 h8 => ?_⟩
  have k0 := h0.2.2 (by omega) (by omega)
  have k1 := h1.2.2 (by omega) (by omega)
  simp only [smAttrs, smLInt, smLInt] at *
  refine ⟨?_, ?_⟩ <;> first | omega | assumption | simp_all
structure Route where
  prefix_ : Prefix
  attrs : Attrs
  deriving Inhabited
@[simp] theorem Route.eta (x : Route) : (⟨x.prefix_, x.attrs⟩ : Route) = x := rfl
def encRoute (q : Ql) (x : Route) : List AV := [.int .i64 x.prefix_.addr, .int .i64 x.prefix_.len, .int .i64 x.attrs.origin, .ts q 1 (x.attrs.path.map encInt), .int .i64 x.attrs.next, .int .i64 x.attrs.med, .int .i64 x.attrs.pref, .ts q 1 (x.attrs.comms.map encInt)]
@[simp] theorem own_encRoute (x : Route) : ownOnlyL (encRoute .own x) = true := by simp [encRoute, ownOnlyL, ownOnly]
@[simp] theorem setQL_encRoute (q q1 : Ql) (x : Route) : setQL q (encRoute q1 x) = encRoute q x := by simp [encRoute, Function.comp_def]
def smRoute (x : Route) : Prop := (x.attrs.path.length ≤ 1048576) ∧ (x.attrs.comms.length ≤ 1048576)
def smsRoute (x : List Route) : Prop := ∀ y ∈ x, smRoute y
def wfRoute (x : Route) : Prop := (x.attrs.path.length ≤ 9223372036854775807) ∧ (x.attrs.comms.length ≤ 9223372036854775807)
def wfsRoute (x : List Route) : Prop := ∀ y ∈ x, wfRoute y
def szRoute (x : Route) (l : Int) : Int := szThen (szAttrs x.attrs l) fun l => l
theorem szRoute_le (x : Route) (l : Int) (h : 0 ≤ l) : szRoute x l ≤ l ∧ -1 ≤ szRoute x l ∧ (0 ≤ szRoute x l → l ≤ 1048576 → smRoute x) := by
  simp only [szRoute, szThen]
  have h0 := szAttrs_le x.attrs (l) (by omega)
  by_cases hc0 : szAttrs x.attrs (l) < 0
  · simp only [hc0, if_true, if_false]; exact ⟨by omega, by omega, fun h => by omega⟩
  simp only [hc0, if_false]
  refine ⟨by omega, by omega, fun h9 h8 => ?_⟩
  have k0 := h0.2.2 (by omega) (by omega)
  simp only [smRoute, smAttrs] at *
  refine ⟨?_, ?_⟩ <;> first | omega | assumption | simp_all
-- laws.szIntS
@[simp] theorem call70 {m : Nat} (args : List AV) (S : St) : evCall T m (evFL T) 70 args S = lendC (evFL T 70) S (lendAll S i70.pes args) := evCall0 fn70 rfl rfl args S
@[simp] theorem callz70 (args : List AV) (S : St) : evCallFz T (evFL T) 70 args S = lendZ (evFL T 70) S i70.res (lendAll S i70.pes args) := evCallFz0 fn70 rfl rfl args S
@[simp] theorem pes70 : i70.pes = [[1], [0]] := rfl
@[simp] theorem body70 : i70.body = c70 := rfl
@[simp] theorem kind70 : i70.kind = 0 := rfl
@[simp] theorem tree70 : i70.tree = false := rfl
@[simp] theorem ntmps70 : i70.ntmps = 12 := rfl
@[simp] theorem results70 : i70.results = [(ResultVar.tmp 4)] := rfl
@[simp] theorem res70 : i70.res = [[0]] := rfl
theorem e70 (a : (List Int)) (l : Int) (hw0 : a.length ≤ 9223372036854775807) (hl0 : 0 ≤ l) (hl1 : l ≤ 1048576) : evFL T 70 [.ts .imm 1 (a.map encInt), .int .i64 l] [] = some (.int .i64 (szLInt a l), []) := by
  rw [evFL_at fn70 (by simp)]
  have hn : IntKind.i64.wrap (l - (a.length : Int)) = l - (a.length : Int) := wrap64 (by omega) (by omega)
  by_cases hc0 : l - (a.length : Int) < 0
  all_goals simp -implicitDefEqProofs [c70, r70_0, r70_1, r70_2, r70_3, r70_4, hw0, hl0, hl1, -List.getElem?_map, -getElem?_pos, -Int.pred_toNat, List.getElem?_cons_zero, map_get, -List.map_take, -List.map_drop, take_map, drop_map, upd_ne, frOf_set, frOf_get, frOf_getD, hn, szL, szLInt, hc0]
-- laws.szAttrs
@[simp] theorem call32 {m : Nat} (args : List AV) (S : St) : evCall T m (evFL T) 32 args S = lendC (evFL T 32) S (lendAll S i32.pes args) := evCall0 fn32 rfl rfl args S
@[simp] theorem callz32 (args : List AV) (S : St) : evCallFz T (evFL T) 32 args S = lendZ (evFL T 32) S i32.res (lendAll S i32.pes args) := evCallFz0 fn32 rfl rfl args S
@[simp] theorem pes32 : i32.pes = [[0, 1, 0, 0, 0, 1], [0]] := rfl
@[simp] theorem body32 : i32.body = c32 := rfl
@[simp] theorem kind32 : i32.kind = 0 := rfl
@[simp] theorem tree32 : i32.tree = false := rfl
@[simp] theorem ntmps32 : i32.ntmps = 18 := rfl
@[simp] theorem results32 : i32.results = [(ResultVar.tmp 4)] := rfl
@[simp] theorem res32 : i32.res = [[0]] := rfl
theorem e32 (a_origin : Int) (a_path : (List Int)) (a_next : Int) (a_med : Int) (a_pref : Int) (a_comms : (List Int)) (l : Int) (hw0 : a_path.length ≤ 9223372036854775807) (hw1 : a_comms.length ≤ 9223372036854775807) (hl0 : 0 ≤ l) (hl1 : l ≤ 1048576) : evFL T 32 [.agg [.int .i64 a_origin, .ts .imm 1 (a_path.map encInt), .int .i64 a_next, .int .i64 a_med, .int .i64 a_pref, .ts .imm 1 (a_comms.map encInt)], .int .i64 l] [] = some (.int .i64 (szAttrs (⟨a_origin, a_path, a_next, a_med, a_pref, a_comms⟩ : Attrs) l), []) := by
  rw [evFL_at fn32 (by simp)]
  have hle0 := szLInt_le (a_path : (List Int)) (l) (by omega)
  have ef0 := e70 a_path (l) hw0 (by omega) (by omega)
  by_cases hc0 : szLInt (a_path : (List Int)) (l) < 0
  · simp -implicitDefEqProofs [c32, r32_0, r32_1, r32_2, r32_3, r32_4, r32_5, r32_6, r32_7, hw0, hw1, hl0, hl1, call70, callz70, e70, -List.getElem?_map, -getElem?_pos, -Int.pred_toNat, List.getElem?_cons_zero, map_get, -List.map_take, -List.map_drop, take_map, drop_map, upd_ne, frOf_set, frOf_get, frOf_getD, szAttrs, szThen, ef0, hc0]
  have hz0 : 0 ≤ szLInt (a_path : (List Int)) (l) := by omega
  have hu0 : szLInt (a_path : (List Int)) (l) ≤ 1048576 := by omega
  have hle1 := szLInt_le (a_comms : (List Int)) (szLInt (a_path : (List Int)) (l)) (by omega)
  have ef1 := e70 a_comms (szLInt (a_path : (List Int)) (l)) hw1 (by omega) (by omega)
  by_cases hc1 : szLInt (a_comms : (List Int)) (szLInt (a_path : (List Int)) (l)) < 0
  · simp -implicitDefEqProofs [c32, r32_0, r32_1, r32_2, r32_3, r32_4, r32_5, r32_6, r32_7, hw0, hw1, hl0, hl1, call70, callz70, e70, -List.getElem?_map, -getElem?_pos, -Int.pred_toNat, List.getElem?_cons_zero, map_get, -List.map_take, -List.map_drop, take_map, drop_map, upd_ne, frOf_set, frOf_get, frOf_getD, szAttrs, szThen, hc0, hz0, hu0, ef0, ef1, hc1]
  have hz1 : 0 ≤ szLInt (a_comms : (List Int)) (szLInt (a_path : (List Int)) (l)) := by omega
  have hu1 : szLInt (a_comms : (List Int)) (szLInt (a_path : (List Int)) (l)) ≤ 1048576 := by omega
  simp -implicitDefEqProofs [c32, r32_0, r32_1, r32_2, r32_3, r32_4, r32_5, r32_6, r32_7, hw0, hw1, hl0, hl1, call70, callz70, e70, -List.getElem?_map, -getElem?_pos, -Int.pred_toNat, List.getElem?_cons_zero, map_get, -List.map_take, -List.map_drop, take_map, drop_map, upd_ne, frOf_set, frOf_get, frOf_getD, szAttrs, szThen, hc0, hc1, hz0, hz1, hu0, hu1, ef0, ef1]
-- laws.szRoute
@[simp] theorem call8 {m : Nat} (args : List AV) (S : St) : evCall T m (evFL T) 8 args S = lendC (evFL T 8) S (lendAll S i8.pes args) := evCall0 fn8 rfl rfl args S
@[simp] theorem callz8 (args : List AV) (S : St) : evCallFz T (evFL T) 8 args S = lendZ (evFL T 8) S i8.res (lendAll S i8.pes args) := evCallFz0 fn8 rfl rfl args S
@[simp] theorem pes8 : i8.pes = [[0, 0, 0, 1, 0, 0, 0, 1], [0]] := rfl
@[simp] theorem body8 : i8.body = c8 := rfl
@[simp] theorem kind8 : i8.kind = 0 := rfl
@[simp] theorem tree8 : i8.tree = false := rfl
@[simp] theorem ntmps8 : i8.ntmps = 12 := rfl
@[simp] theorem results8 : i8.results = [(ResultVar.tmp 4)] := rfl
@[simp] theorem res8 : i8.res = [[0]] := rfl
theorem e8 (a_prefix__addr : Int) (a_prefix__len : Int) (a_attrs_origin : Int) (a_attrs_path : (List Int)) (a_attrs_next : Int) (a_attrs_med : Int) (a_attrs_pref : Int) (a_attrs_comms : (List Int)) (l : Int) (hw0 : a_attrs_path.length ≤ 9223372036854775807) (hw1 : a_attrs_comms.length ≤ 9223372036854775807) (hl0 : 0 ≤ l) (hl1 : l ≤ 1048576) : evFL T 8 [.agg [.int .i64 a_prefix__addr, .int .i64 a_prefix__len, .int .i64 a_attrs_origin, .ts .imm 1 (a_attrs_path.map encInt), .int .i64 a_attrs_next, .int .i64 a_attrs_med, .int .i64 a_attrs_pref, .ts .imm 1 (a_attrs_comms.map encInt)], .int .i64 l] [] = some (.int .i64 (szRoute (⟨⟨a_prefix__addr, a_prefix__len⟩, ⟨a_attrs_origin, a_attrs_path, a_attrs_next, a_attrs_med, a_attrs_pref, a_attrs_comms⟩⟩ : Route) l), []) := by
  rw [evFL_at fn8 (by simp)]
  have hle0 := szAttrs_le (⟨a_attrs_origin, a_attrs_path, a_attrs_next, a_attrs_med, a_attrs_pref, a_attrs_comms⟩ : Attrs) (l) (by omega)
  have ef0 := e32 a_attrs_origin a_attrs_path a_attrs_next a_attrs_med a_attrs_pref a_attrs_comms (l) hw0 hw1 (by omega) (by omega)
  by_cases hc0 : szAttrs (⟨a_attrs_origin, a_attrs_path, a_attrs_next, a_attrs_med, a_attrs_pref, a_attrs_comms⟩ : Attrs) (l) < 0
  · simp -implicitDefEqProofs [c8, r8_0, r8_1, r8_2, r8_3, r8_4, hw0, hw1, hl0, hl1, call32, callz32, e32, -List.getElem?_map, -getElem?_pos, -Int.pred_toNat, List.getElem?_cons_zero, map_get, -List.map_take, -List.map_drop, take_map, drop_map, upd_ne, frOf_set, frOf_get, frOf_getD, szRoute, szThen, ef0, hc0]
  have hz0 : 0 ≤ szAttrs (⟨a_attrs_origin, a_attrs_path, a_attrs_next, a_attrs_med, a_attrs_pref, a_attrs_comms⟩ : Attrs) (l) := by omega
  have hu0 : szAttrs (⟨a_attrs_origin, a_attrs_path, a_attrs_next, a_attrs_med, a_attrs_pref, a_attrs_comms⟩ : Attrs) (l) ≤ 1048576 := by omega
  simp -implicitDefEqProofs [c8, r8_0, r8_1, r8_2, r8_3, r8_4, hw0, hw1, hl0, hl1, call32, callz32, e32, -List.getElem?_map, -getElem?_pos, -Int.pred_toNat, List.getElem?_cons_zero, map_get, -List.map_take, -List.map_drop, take_map, drop_map, upd_ne, frOf_set, frOf_get, frOf_getD, szRoute, szThen, hc0, hz0, hu0, ef0]
-- spec.l1In
@[simp] theorem call71 {m : Nat} (args : List AV) (S : St) : evCall T m (evFL T) 71 args S = lendC (evFL T 71) S (lendAll S i71.pes args) := evCall0 fn71 rfl rfl args S
@[simp] theorem callz71 (args : List AV) (S : St) : evCallFz T (evFL T) 71 args S = lendZ (evFL T 71) S i71.res (lendAll S i71.pes args) := evCallFz0 fn71 rfl rfl args S
@[simp] theorem pes71 : i71.pes = [[0], [0], [0]] := rfl
@[simp] theorem body71 : i71.body = c71 := rfl
@[simp] theorem kind71 : i71.kind = 0 := rfl
@[simp] theorem tree71 : i71.tree = false := rfl
@[simp] theorem ntmps71 : i71.ntmps = 15 := rfl
@[simp] theorem results71 : i71.results = [(ResultVar.tmp 6)] := rfl
@[simp] theorem res71 : i71.res = [[0]] := rfl
theorem e71 (a : Int) (b : Int) (c : Int)  : evFL T 71 [.int .i64 a, .int .i64 b, .int .i64 c] [] = some (.bool (inR a b c), []) := by
  rw [evFL_at fn71 (by simp)]
  by_cases hc0 : b ≤ a
  all_goals simp -implicitDefEqProofs [c71, r71_0, r71_1, -List.getElem?_map, -getElem?_pos, -Int.pred_toNat, List.getElem?_cons_zero, map_get, -List.map_take, -List.map_drop, take_map, drop_map, upd_ne, frOf_set, frOf_get, frOf_getD, inR, hc0]
-- spec.l1Addr
@[simp] theorem call72 {m : Nat} (args : List AV) (S : St) : evCall T m (evFL T) 72 args S = lendC (evFL T 72) S (lendAll S i72.pes args) := evCall0 fn72 rfl rfl args S
@[simp] theorem callz72 (args : List AV) (S : St) : evCallFz T (evFL T) 72 args S = lendZ (evFL T 72) S i72.res (lendAll S i72.pes args) := evCallFz0 fn72 rfl rfl args S
@[simp] theorem pes72 : i72.pes = [[0]] := rfl
@[simp] theorem body72 : i72.body = c72 := rfl
@[simp] theorem kind72 : i72.kind = 0 := rfl
@[simp] theorem tree72 : i72.tree = false := rfl
@[simp] theorem ntmps72 : i72.ntmps = 5 := rfl
@[simp] theorem results72 : i72.results = [(ResultVar.tmp 2)] := rfl
@[simp] theorem res72 : i72.res = [[0]] := rfl
theorem e72 (a : Int)  : evFL T 72 [.int .i64 a] [] = some (.bool (inR a 0 4294967295), []) := by
  rw [evFL_at fn72 (by simp)]
  all_goals simp -implicitDefEqProofs [c72, r72_0, r72_1, call71, callz71, e71, -List.getElem?_map, -getElem?_pos, -Int.pred_toNat, List.getElem?_cons_zero, map_get, -List.map_take, -List.map_drop, take_map, drop_map, upd_ne, frOf_set, frOf_get, frOf_getD]
def prefB (x : Prefix) : Bool := inR x.len 0 32 && inR x.addr 0 4294967295 && decide (x.addr.tmod (2 ^ (32 - x.len).toNat) = 0)
theorem pow_small {k : Nat} (h : k ≤ 32) : IntKind.i64.wrap ((2 : Int) ^ k) = (2 : Int) ^ k := by
  have h1 : (2 : Nat) ^ k ≤ 2 ^ 32 := Nat.pow_le_pow_right (by decide) h
  have h2 : ((2 : Int) ^ k) = ((2 ^ k : Nat) : Int) := by simp
  rw [h2]
  generalize 2 ^ k = m at h1 ⊢
  exact wrap64 (by omega) (by omega)
theorem pow_ne {k : Nat} : ¬ ((2 : Int) ^ k = 0) := by
  have h2 : ((2 : Int) ^ k) = ((2 ^ k : Nat) : Int) := by simp
  have h1 := Nat.pow_pos (n := k) (show 0 < 2 by decide)
  rw [h2]
  generalize 2 ^ k = m at h1 ⊢
  omega
theorem min_bits {k : Nat} (h : k ≤ 32) : min k IntKind.i64.bits = k := by simp [IntKind.bits]; omega
theorem wrapu64 {x : Int} (h1 : 0 ≤ x) (h2 : x < 18446744073709551616) : IntKind.u64.wrap x = x := by
  simp [IntKind.wrap, IntKind.bits, IntKind.signed]
  omega
-- spec.l1Size
@[simp] theorem call73 {m : Nat} (args : List AV) (S : St) : evCall T m (evFL T) 73 args S = lendC (evFL T 73) S (lendAll S i73.pes args) := evCall0 fn73 rfl rfl args S
@[simp] theorem callz73 (args : List AV) (S : St) : evCallFz T (evFL T) 73 args S = lendZ (evFL T 73) S i73.res (lendAll S i73.pes args) := evCallFz0 fn73 rfl rfl args S
@[simp] theorem pes73 : i73.pes = [[0, 0]] := rfl
@[simp] theorem body73 : i73.body = c73 := rfl
@[simp] theorem kind73 : i73.kind = 0 := rfl
@[simp] theorem tree73 : i73.tree = false := rfl
@[simp] theorem ntmps73 : i73.ntmps = 8 := rfl
@[simp] theorem results73 : i73.results = [(ResultVar.tmp 2)] := rfl
@[simp] theorem res73 : i73.res = [[0]] := rfl
theorem e73 (a_addr : Int) (a_len : Int) (h1 : 0 ≤ a_len) (h2 : a_len ≤ 32) : evFL T 73 [.agg [.int .i64 a_addr, .int .i64 a_len]] [] = some (.int .i64 (2 ^ (32 - a_len).toNat), []) := by
  rw [evFL_at fn73 (by simp)]
  obtain ⟨k, hk⟩ : ∃ k : Nat, 32 - a_len = (k : Int) := ⟨(32 - a_len).toNat, by omega⟩
  have hk2 : k ≤ 32 := by omega
  have hk0 : ¬ ((k : Int) < 0) := by omega
  have hw1 : IntKind.i64.wrap (k : Int) = (k : Int) := wrap64 (by omega) (by omega)
  have hw2 : IntKind.u64.wrap (k : Int) = (k : Int) := wrapu64 (by omega) (by omega)
  simp -implicitDefEqProofs [c73, r73_0, r73_1, h1, h2, -List.getElem?_map, -getElem?_pos, -Int.pred_toNat, List.getElem?_cons_zero, map_get, -List.map_take, -List.map_drop, take_map, drop_map, upd_ne, frOf_set, frOf_get, frOf_getD, hk, hk0, hw1, hw2, min_bits hk2, pow_small hk2]
-- spec.GoodPrefix
@[simp] theorem call33 {m : Nat} (args : List AV) (S : St) : evCall T m (evFL T) 33 args S = lendC (evFL T 33) S (lendAll S i33.pes args) := evCall0 fn33 rfl rfl args S
@[simp] theorem callz33 (args : List AV) (S : St) : evCallFz T (evFL T) 33 args S = lendZ (evFL T 33) S i33.res (lendAll S i33.pes args) := evCallFz0 fn33 rfl rfl args S
@[simp] theorem pes33 : i33.pes = [[0, 0]] := rfl
@[simp] theorem body33 : i33.body = c33 := rfl
@[simp] theorem kind33 : i33.kind = 0 := rfl
@[simp] theorem tree33 : i33.tree = false := rfl
@[simp] theorem ntmps33 : i33.ntmps = 19 := rfl
@[simp] theorem results33 : i33.results = [(ResultVar.tmp 2)] := rfl
@[simp] theorem res33 : i33.res = [[0]] := rfl
theorem e33 (a_addr : Int) (a_len : Int)  : evFL T 33 [.agg [.int .i64 a_addr, .int .i64 a_len]] [] = some (.bool (prefB (⟨a_addr, a_len⟩ : Prefix)), []) := by
  rw [evFL_at fn33 (by simp)]
  cases hq0 : inR a_len 0 32
  · simp -implicitDefEqProofs [c33, r33_0, r33_1, call71, callz71, e71, call72, callz72, e72, call73, callz73, e73, -List.getElem?_map, -getElem?_pos, -Int.pred_toNat, List.getElem?_cons_zero, map_get, -List.map_take, -List.map_drop, take_map, drop_map, upd_ne, frOf_set, frOf_get, frOf_getD, hq0, prefB]
  cases hq1 : inR a_addr 0 4294967295
  · simp -implicitDefEqProofs [c33, r33_0, r33_1, call71, callz71, e71, call72, callz72, e72, call73, callz73, e73, -List.getElem?_map, -getElem?_pos, -Int.pred_toNat, List.getElem?_cons_zero, map_get, -List.map_take, -List.map_drop, take_map, drop_map, upd_ne, frOf_set, frOf_get, frOf_getD, hq0, hq1, prefB]
  have hl : 0 ≤ a_len ∧ a_len ≤ 32 := by simpa [inR] using hq0
  obtain ⟨hl1, hl2⟩ := hl
  simp -implicitDefEqProofs [c33, r33_0, r33_1, call71, callz71, e71, call72, callz72, e72, call73, callz73, e73, -List.getElem?_map, -getElem?_pos, -Int.pred_toNat, List.getElem?_cons_zero, map_get, -List.map_take, -List.map_drop, take_map, drop_map, upd_ne, frOf_set, frOf_get, frOf_getD, hq0, hq1, hl1, hl2, pow_ne, prefB]
def commP (xs : List Int) (j : Nat) : Bool := inR (nth xs j) 0 1000000 && (j == 0 || decide (nth xs (j - 1) < nth xs j))
def commsB (xs : List Int) : Bool := allB xs.length (commP xs) && decide ((xs.length : Int) ≤ 6)
def pathB (xs : List Int) : Bool := decide ((xs.length : Int) ≤ 10) && xs.all fun n => inR n 1 65535
def attrsB (x : Attrs) : Bool := inR x.origin 0 2 && pathB x.path && inR x.next 0 4294967295 && inR x.med 0 1000000 && inR x.pref 0 1000000 && commsB x.comms
-- spec.GoodAttrs
@[simp] theorem call34 {m : Nat} (args : List AV) (S : St) : evCall T m (evFL T) 34 args S = lendC (evFL T 34) S (lendAll S i34.pes args) := evCall0 fn34 rfl rfl args S
@[simp] theorem callz34 (args : List AV) (S : St) : evCallFz T (evFL T) 34 args S = lendZ (evFL T 34) S i34.res (lendAll S i34.pes args) := evCallFz0 fn34 rfl rfl args S
@[simp] theorem pes34 : i34.pes = [[0, 1, 0, 0, 0, 1]] := rfl
@[simp] theorem body34 : i34.body = c34 := rfl
@[simp] theorem kind34 : i34.kind = 0 := rfl
@[simp] theorem tree34 : i34.tree = false := rfl
@[simp] theorem ntmps34 : i34.ntmps = 74 := rfl
@[simp] theorem results34 : i34.results = [(ResultVar.tmp 2)] := rfl
@[simp] theorem res34 : i34.res = [[0]] := rfl
def I34_0 (a_origin : Int) (a_path : (List Int)) (a_next : Int) (a_med : Int) (a_pref : Int) (a_comms : (List Int))  (i : Nat) (fr : Fr) (S : St) : Prop := ∃ f : Nat → AV, fr = frOf 74 f ∧ f 1 = .ptr 0 0 0 ∧ f 8 = .ts .imm 1 (a_path.map encInt) ∧ f 9 = .int .i64 a_path.length ∧ f 10 = .int .i64 i ∧ S = [some ⟨.box, 6, [[.int .i64 a_origin, .ts .imm 1 (a_path.map encInt), .int .i64 a_next, .int .i64 a_med, .int .i64 a_pref, .ts .imm 1 (a_comms.map encInt)]]⟩] ∧ ∀ j, j < i → inR (nth a_path j) 1 65535 = true
def R34_0 (a_origin : Int) (a_path : (List Int)) (a_next : Int) (a_med : Int) (a_pref : Int) (a_comms : (List Int))  (r : Option (Ex × Fr × St)) : Prop := (∃ f : Nat → AV, r = some (.ret, frOf 74 f, [some ⟨.box, 6, [[.int .i64 a_origin, .ts .imm 1 (a_path.map encInt), .int .i64 a_next, .int .i64 a_med, .int .i64 a_pref, .ts .imm 1 (a_comms.map encInt)]]⟩]) ∧ f 2 = .bool false ∧ (a_path.all fun n => inR n 1 65535) = false) ∨ (∃ f : Nat → AV, r = some (.exit 0, frOf 74 f, [some ⟨.box, 6, [[.int .i64 a_origin, .ts .imm 1 (a_path.map encInt), .int .i64 a_next, .int .i64 a_med, .int .i64 a_pref, .ts .imm 1 (a_comms.map encInt)]]⟩]) ∧ f 1 = .ptr 0 0 0 ∧ (a_path.all fun n => inR n 1 65535) = true)
theorem L34_0 (a_origin : Int) (a_path : (List Int)) (a_next : Int) (a_med : Int) (a_pref : Int) (a_comms : (List Int)) (h0 : a_path.length ≤ 1048576) (h1 : a_comms.length ≤ 1048576)   : ∀ i fr S, i ≤ a_path.length → I34_0 a_origin a_path a_next a_med a_pref a_comms  i fr S → R34_0 a_origin a_path a_next a_med a_pref a_comms  (evCL T 0 (.loop l34_0) fr S) := by
  refine loopQ _ _ _ ?_ ?_
  · rintro i fr S hi ⟨f, rfl, t1, t8, t9, t10, rfl, hf⟩
    have hwi : IntKind.i64.wrap ((i : Int) + 1) = (i : Int) + 1 := wrap64 (by omega) (by omega)
    cases hc : inR (nth a_path i) 1 65535
    · simp -implicitDefEqProofs [r34_0, r34_1, r34_2, r34_3, r34_4, r34_5, r34_6, r34_7, r34_8, r34_9, r34_10, r34_11, r34_12, r34_13, l34_0, h0, h1, call71, callz71, e71, call72, callz72, e72, -List.getElem?_map, -getElem?_pos, -Int.pred_toNat, List.getElem?_cons_zero, map_get, -List.map_take, -List.map_drop, take_map, drop_map, upd_ne, frOf_set, frOf_get, frOf_getD, encInt, t1, t8, t9, t10, hi, hwi, hc]
      refine .ret _ _ (Or.inl ⟨_, rfl, (by first | rfl | assumption | simp [upd, *]), ?_⟩); exact fa_no hi hc
    · simp -implicitDefEqProofs [r34_0, r34_1, r34_2, r34_3, r34_4, r34_5, r34_6, r34_7, r34_8, r34_9, r34_10, r34_11, r34_12, r34_13, l34_0, h0, h1, call71, callz71, e71, call72, callz72, e72, -List.getElem?_map, -getElem?_pos, -Int.pred_toNat, List.getElem?_cons_zero, map_get, -List.map_take, -List.map_drop, take_map, drop_map, upd_ne, frOf_set, frOf_get, frOf_getD, encInt, t1, t8, t9, t10, hi, hwi, hc]
      refine .go _ _ ⟨_, rfl, (by first | rfl | assumption | simp [upd, *]), (by first | rfl | assumption | simp [upd, *]), (by first | rfl | assumption | simp [upd, *]), (by first | rfl | assumption | simp [upd, *]), rfl, ?_⟩; exact fa_succ hf hc
  · rintro fr S ⟨f, rfl, t1, t8, t9, t10, rfl, hf⟩
    simp -implicitDefEqProofs [r34_0, r34_1, r34_2, r34_3, r34_4, r34_5, r34_6, r34_7, r34_8, r34_9, r34_10, r34_11, r34_12, r34_13, l34_0, h0, h1, call71, callz71, e71, call72, callz72, e72, -List.getElem?_map, -getElem?_pos, -Int.pred_toNat, List.getElem?_cons_zero, map_get, -List.map_take, -List.map_drop, take_map, drop_map, upd_ne, frOf_set, frOf_get, frOf_getD, encInt, t1, t8, t9, t10]
    refine .exit _ _ _ (Or.inr ⟨_, rfl, (by first | rfl | assumption | simp [upd, *]), ?_⟩)
    exact fa_all hf
def I34_1 (a_origin : Int) (a_path : (List Int)) (a_next : Int) (a_med : Int) (a_pref : Int) (a_comms : (List Int))  (i : Nat) (fr : Fr) (S : St) : Prop := ∃ f : Nat → AV, fr = frOf 74 f ∧ f 1 = .ptr 0 0 0 ∧ f 19 = .ts .imm 1 (a_comms.map encInt) ∧ f 20 = .int .i64 a_comms.length ∧ f 21 = .int .i64 i ∧ S = [some ⟨.box, 6, [[.int .i64 a_origin, .ts .imm 1 (a_path.map encInt), .int .i64 a_next, .int .i64 a_med, .int .i64 a_pref, .ts .imm 1 (a_comms.map encInt)]]⟩] ∧ allB i (commP a_comms) = true
def R34_1 (a_origin : Int) (a_path : (List Int)) (a_next : Int) (a_med : Int) (a_pref : Int) (a_comms : (List Int))  (r : Option (Ex × Fr × St)) : Prop := (∃ f : Nat → AV, r = some (.ret, frOf 74 f, [some ⟨.box, 6, [[.int .i64 a_origin, .ts .imm 1 (a_path.map encInt), .int .i64 a_next, .int .i64 a_med, .int .i64 a_pref, .ts .imm 1 (a_comms.map encInt)]]⟩]) ∧ f 2 = .bool false ∧ allB a_comms.length (commP a_comms) = false) ∨ (∃ f : Nat → AV, r = some (.exit 2, frOf 74 f, [some ⟨.box, 6, [[.int .i64 a_origin, .ts .imm 1 (a_path.map encInt), .int .i64 a_next, .int .i64 a_med, .int .i64 a_pref, .ts .imm 1 (a_comms.map encInt)]]⟩]) ∧ f 1 = .ptr 0 0 0 ∧ allB a_comms.length (commP a_comms) = true)
theorem L34_1 (a_origin : Int) (a_path : (List Int)) (a_next : Int) (a_med : Int) (a_pref : Int) (a_comms : (List Int)) (h0 : a_path.length ≤ 1048576) (h1 : a_comms.length ≤ 1048576)   : ∀ i fr S, i ≤ a_comms.length → I34_1 a_origin a_path a_next a_med a_pref a_comms  i fr S → R34_1 a_origin a_path a_next a_med a_pref a_comms  (evCL T 0 (.loop l34_1) fr S) := by
  refine loopQ _ _ _ ?_ ?_
  · rintro i fr S hi ⟨f, rfl, t1, t19, t20, t21, rfl, hf⟩
    have hwi : IntKind.i64.wrap ((i : Int) + 1) = (i : Int) + 1 := wrap64 (by omega) (by omega)
    rcases i with _ | i
    · by_cases hc : inR (nth a_comms 0) 0 1000000 = true
      · simp -implicitDefEqProofs [r34_0, r34_1, r34_2, r34_3, r34_4, r34_5, r34_6, r34_7, r34_8, r34_9, r34_10, r34_11, r34_12, r34_13, l34_1, h0, h1, call71, callz71, e71, call72, callz72, e72, -List.getElem?_map, -getElem?_pos, -Int.pred_toNat, List.getElem?_cons_zero, map_get, -List.map_take, -List.map_drop, take_map, drop_map, upd_ne, frOf_set, frOf_get, frOf_getD, encInt, t1, t19, t20, t21, hi, hwi, hc]
        refine .go _ _ ⟨_, rfl, (by first | rfl | assumption | simp [upd, *]), (by first | rfl | assumption | simp [upd, *]), (by first | rfl | assumption | simp [upd, *]), (by first | rfl | assumption | simp [upd, *]), rfl, ?_⟩; simp [allB_succ, commP, hc]
      · simp -implicitDefEqProofs [r34_0, r34_1, r34_2, r34_3, r34_4, r34_5, r34_6, r34_7, r34_8, r34_9, r34_10, r34_11, r34_12, r34_13, l34_1, h0, h1, call71, callz71, e71, call72, callz72, e72, -List.getElem?_map, -getElem?_pos, -Int.pred_toNat, List.getElem?_cons_zero, map_get, -List.map_take, -List.map_drop, take_map, drop_map, upd_ne, frOf_set, frOf_get, frOf_getD, encInt, t1, t19, t20, t21, hi, hwi, hc]
        refine .ret _ _ (Or.inl ⟨_, rfl, (by first | rfl | assumption | simp [upd, *]), ?_⟩); exact allB_no hi (by simp [commP, hc])
    · have hs : (i : Int) + 1 < (a_comms.length : Int) := by omega
      have hz : (0 : Int) ≤ (i : Int) + 1 := by omega
      have hp : (0 : Int) < (i : Int) + 1 := by omega
      have hw0 : IntKind.i64.wrap (i : Int) = (i : Int) := wrap64 (by omega) (by omega)
      have hw1 : IntKind.i64.wrap ((i : Int) + 1 + 1) = (i : Int) + 1 + 1 := wrap64 (by omega) (by omega)
      have hi2 := Nat.lt_of_succ_lt hi
      by_cases hc : inR (nth a_comms (i + 1)) 0 1000000 = true
      · by_cases hd : nth a_comms (i + 1) ≤ nth a_comms i
        · simp -implicitDefEqProofs [r34_0, r34_1, r34_2, r34_3, r34_4, r34_5, r34_6, r34_7, r34_8, r34_9, r34_10, r34_11, r34_12, r34_13, l34_1, h0, h1, call71, callz71, e71, call72, callz72, e72, -List.getElem?_map, -getElem?_pos, -Int.pred_toNat, List.getElem?_cons_zero, map_get, -List.map_take, -List.map_drop, take_map, drop_map, upd_ne, frOf_set, frOf_get, frOf_getD, encInt, t1, t19, t20, t21, hi, hi2, hs, hz, hp, hw0, hw1, hwi, hc, hd]
          refine .ret _ _ (Or.inl ⟨_, rfl, (by first | rfl | assumption | simp [upd, *]), ?_⟩); exact allB_no hi (by simp [commP]; omega)
        · simp -implicitDefEqProofs [r34_0, r34_1, r34_2, r34_3, r34_4, r34_5, r34_6, r34_7, r34_8, r34_9, r34_10, r34_11, r34_12, r34_13, l34_1, h0, h1, call71, callz71, e71, call72, callz72, e72, -List.getElem?_map, -getElem?_pos, -Int.pred_toNat, List.getElem?_cons_zero, map_get, -List.map_take, -List.map_drop, take_map, drop_map, upd_ne, frOf_set, frOf_get, frOf_getD, encInt, t1, t19, t20, t21, hi, hi2, hs, hz, hp, hw0, hw1, hwi, hc, hd]
          refine .go _ _ ⟨_, rfl, (by first | rfl | assumption | simp [upd, *]), (by first | rfl | assumption | simp [upd, *]), (by first | rfl | assumption | simp [upd, *]), (by first | rfl | assumption | simp [upd, *]), rfl, ?_⟩; simp [allB_succ, commP, hc] at hf ⊢; simp [hf]; omega
      · simp -implicitDefEqProofs [r34_0, r34_1, r34_2, r34_3, r34_4, r34_5, r34_6, r34_7, r34_8, r34_9, r34_10, r34_11, r34_12, r34_13, l34_1, h0, h1, call71, callz71, e71, call72, callz72, e72, -List.getElem?_map, -getElem?_pos, -Int.pred_toNat, List.getElem?_cons_zero, map_get, -List.map_take, -List.map_drop, take_map, drop_map, upd_ne, frOf_set, frOf_get, frOf_getD, encInt, t1, t19, t20, t21, hi, hi2, hs, hz, hp, hw0, hw1, hwi, hc]
        refine .ret _ _ (Or.inl ⟨_, rfl, (by first | rfl | assumption | simp [upd, *]), ?_⟩); exact allB_no hi (by simp [commP, hc])
  · rintro fr S ⟨f, rfl, t1, t19, t20, t21, rfl, hf⟩
    simp -implicitDefEqProofs [r34_0, r34_1, r34_2, r34_3, r34_4, r34_5, r34_6, r34_7, r34_8, r34_9, r34_10, r34_11, r34_12, r34_13, l34_1, h0, h1, call71, callz71, e71, call72, callz72, e72, -List.getElem?_map, -getElem?_pos, -Int.pred_toNat, List.getElem?_cons_zero, map_get, -List.map_take, -List.map_drop, take_map, drop_map, upd_ne, frOf_set, frOf_get, frOf_getD, encInt, t1, t19, t20, t21]
    refine .exit _ _ _ (Or.inr ⟨_, rfl, (by first | rfl | assumption | simp [upd, *]), ?_⟩)
    first | trivial | assumption | simp [*]
theorem e34 (a_origin : Int) (a_path : (List Int)) (a_next : Int) (a_med : Int) (a_pref : Int) (a_comms : (List Int)) (h0 : a_path.length ≤ 1048576) (h1 : a_comms.length ≤ 1048576) : evFL T 34 [.agg [.int .i64 a_origin, .ts .imm 1 (a_path.map encInt), .int .i64 a_next, .int .i64 a_med, .int .i64 a_pref, .ts .imm 1 (a_comms.map encInt)]] [] = some (.bool (attrsB (⟨a_origin, a_path, a_next, a_med, a_pref, a_comms⟩ : Attrs)), []) := by
  rw [evFL_at fn34 (by simp)]
  simp -implicitDefEqProofs [c34, r34_0, r34_1, r34_2, r34_3, r34_4, r34_5, r34_6, r34_7, r34_8, r34_9, r34_10, r34_11, r34_12, r34_13, h0, h1, call71, callz71, e71, call72, callz72, e72, -List.getElem?_map, -getElem?_pos, -Int.pred_toNat, List.getElem?_cons_zero, map_get, -List.map_take, -List.map_drop, take_map, drop_map, upd_ne, frOf_set, frOf_get, frOf_getD, encInt]
  generalize hr : evCL T 0 (.loop l34_0) _ _ = r
  have h : R34_0 a_origin a_path a_next a_med a_pref a_comms  r := by rw [← hr]; exact L34_0 a_origin a_path a_next a_med a_pref a_comms h0 h1  (0) _ _ (by omega) ⟨_, rfl, (by simp [upd, *]), (by simp [upd, *]), (by simp [upd, *]), (by simp [upd, *]), rfl, by simp⟩
  clear hr
  rcases h with h | h
  · obtain ⟨f0, rfl, u0_2, hf0⟩ := h
    simp -implicitDefEqProofs [r34_0, r34_1, r34_2, r34_3, r34_4, r34_5, r34_6, r34_7, r34_8, r34_9, r34_10, r34_11, r34_12, r34_13, h0, h1, call71, callz71, e71, call72, callz72, e72, -List.getElem?_map, -getElem?_pos, -Int.pred_toNat, List.getElem?_cons_zero, map_get, -List.map_take, -List.map_drop, take_map, drop_map, upd_ne, frOf_set, frOf_get, frOf_getD, encInt, u0_2, hf0, attrsB, pathB]
  obtain ⟨f0, rfl, u0_1, hf0⟩ := h
  simp -implicitDefEqProofs [r34_0, r34_1, r34_2, r34_3, r34_4, r34_5, r34_6, r34_7, r34_8, r34_9, r34_10, r34_11, r34_12, r34_13, h0, h1, call71, callz71, e71, call72, callz72, e72, -List.getElem?_map, -getElem?_pos, -Int.pred_toNat, List.getElem?_cons_zero, map_get, -List.map_take, -List.map_drop, take_map, drop_map, upd_ne, frOf_set, frOf_get, frOf_getD, encInt, u0_1, hf0] <;> try omega
  generalize hr : evCL T 0 (.loop l34_1) _ _ = r
  have h : R34_1 a_origin a_path a_next a_med a_pref a_comms  r := by rw [← hr]; exact L34_1 a_origin a_path a_next a_med a_pref a_comms h0 h1  (0) _ _ (by omega) ⟨_, rfl, (by simp [upd, *]), (by simp [upd, *]), (by simp [upd, *]), (by simp [upd, *]), rfl, by first | trivial | assumption | simp⟩
  clear hr
  rcases h with h | h
  · obtain ⟨f1, rfl, u1_2, hf1⟩ := h
    simp -implicitDefEqProofs [r34_0, r34_1, r34_2, r34_3, r34_4, r34_5, r34_6, r34_7, r34_8, r34_9, r34_10, r34_11, r34_12, r34_13, h0, h1, call71, callz71, e71, call72, callz72, e72, -List.getElem?_map, -getElem?_pos, -Int.pred_toNat, List.getElem?_cons_zero, map_get, -List.map_take, -List.map_drop, take_map, drop_map, upd_ne, frOf_set, frOf_get, frOf_getD, encInt, u1_2, hf1, attrsB, commsB]
  obtain ⟨f1, rfl, u1_1, hf1⟩ := h
  cases hq0 : (inR a_origin 0 2 : Bool)
  · simp -implicitDefEqProofs [r34_0, r34_1, r34_2, r34_3, r34_4, r34_5, r34_6, r34_7, r34_8, r34_9, r34_10, r34_11, r34_12, r34_13, h0, h1, call71, callz71, e71, call72, callz72, e72, -List.getElem?_map, -getElem?_pos, -Int.pred_toNat, List.getElem?_cons_zero, map_get, -List.map_take, -List.map_drop, take_map, drop_map, upd_ne, frOf_set, frOf_get, frOf_getD, encInt, u0_1, u1_1, hf0, hf1, hq0, attrsB, pathB, commsB] <;> try omega
  cases hq1 : (decide ((a_path.length : Int) ≤ 10) : Bool)
  · simp -implicitDefEqProofs [r34_0, r34_1, r34_2, r34_3, r34_4, r34_5, r34_6, r34_7, r34_8, r34_9, r34_10, r34_11, r34_12, r34_13, h0, h1, call71, callz71, e71, call72, callz72, e72, -List.getElem?_map, -getElem?_pos, -Int.pred_toNat, List.getElem?_cons_zero, map_get, -List.map_take, -List.map_drop, take_map, drop_map, upd_ne, frOf_set, frOf_get, frOf_getD, encInt, u0_1, u1_1, hf0, hf1, hq0, hq1, attrsB, pathB, commsB] <;> try omega
  cases hq2 : (inR a_next 0 4294967295 : Bool)
  · simp -implicitDefEqProofs [r34_0, r34_1, r34_2, r34_3, r34_4, r34_5, r34_6, r34_7, r34_8, r34_9, r34_10, r34_11, r34_12, r34_13, h0, h1, call71, callz71, e71, call72, callz72, e72, -List.getElem?_map, -getElem?_pos, -Int.pred_toNat, List.getElem?_cons_zero, map_get, -List.map_take, -List.map_drop, take_map, drop_map, upd_ne, frOf_set, frOf_get, frOf_getD, encInt, u0_1, u1_1, hf0, hf1, hq0, hq1, hq2, attrsB, pathB, commsB] <;> try omega
  cases hq3 : (inR a_med 0 1000000 : Bool)
  · simp -implicitDefEqProofs [r34_0, r34_1, r34_2, r34_3, r34_4, r34_5, r34_6, r34_7, r34_8, r34_9, r34_10, r34_11, r34_12, r34_13, h0, h1, call71, callz71, e71, call72, callz72, e72, -List.getElem?_map, -getElem?_pos, -Int.pred_toNat, List.getElem?_cons_zero, map_get, -List.map_take, -List.map_drop, take_map, drop_map, upd_ne, frOf_set, frOf_get, frOf_getD, encInt, u0_1, u1_1, hf0, hf1, hq0, hq1, hq2, hq3, attrsB, pathB, commsB] <;> try omega
  cases hq4 : (inR a_pref 0 1000000 : Bool)
  · simp -implicitDefEqProofs [r34_0, r34_1, r34_2, r34_3, r34_4, r34_5, r34_6, r34_7, r34_8, r34_9, r34_10, r34_11, r34_12, r34_13, h0, h1, call71, callz71, e71, call72, callz72, e72, -List.getElem?_map, -getElem?_pos, -Int.pred_toNat, List.getElem?_cons_zero, map_get, -List.map_take, -List.map_drop, take_map, drop_map, upd_ne, frOf_set, frOf_get, frOf_getD, encInt, u0_1, u1_1, hf0, hf1, hq0, hq1, hq2, hq3, hq4, attrsB, pathB, commsB] <;> try omega
  simp -implicitDefEqProofs [r34_0, r34_1, r34_2, r34_3, r34_4, r34_5, r34_6, r34_7, r34_8, r34_9, r34_10, r34_11, r34_12, r34_13, h0, h1, call71, callz71, e71, call72, callz72, e72, -List.getElem?_map, -getElem?_pos, -Int.pred_toNat, List.getElem?_cons_zero, map_get, -List.map_take, -List.map_drop, take_map, drop_map, upd_ne, frOf_set, frOf_get, frOf_getD, encInt, u0_1, u1_1, hf0, hf1, hq0, hq1, hq2, hq3, hq4, attrsB, pathB, commsB] <;> try omega
-- spec.GoodRoute
@[simp] theorem call9 {m : Nat} (args : List AV) (S : St) : evCall T m (evFL T) 9 args S = lendC (evFL T 9) S (lendAll S i9.pes args) := evCall0 fn9 rfl rfl args S
@[simp] theorem callz9 (args : List AV) (S : St) : evCallFz T (evFL T) 9 args S = lendZ (evFL T 9) S i9.res (lendAll S i9.pes args) := evCallFz0 fn9 rfl rfl args S
@[simp] theorem pes9 : i9.pes = [[0, 0, 0, 1, 0, 0, 0, 1]] := rfl
@[simp] theorem body9 : i9.body = c9 := rfl
@[simp] theorem kind9 : i9.kind = 0 := rfl
@[simp] theorem tree9 : i9.tree = false := rfl
@[simp] theorem ntmps9 : i9.ntmps = 11 := rfl
@[simp] theorem results9 : i9.results = [(ResultVar.tmp 2)] := rfl
@[simp] theorem res9 : i9.res = [[0]] := rfl
theorem e9 (a_prefix__addr : Int) (a_prefix__len : Int) (a_attrs_origin : Int) (a_attrs_path : (List Int)) (a_attrs_next : Int) (a_attrs_med : Int) (a_attrs_pref : Int) (a_attrs_comms : (List Int)) (h0 : a_attrs_path.length ≤ 1048576) (h1 : a_attrs_comms.length ≤ 1048576) : evFL T 9 [.agg [.int .i64 a_prefix__addr, .int .i64 a_prefix__len, .int .i64 a_attrs_origin, .ts .imm 1 (a_attrs_path.map encInt), .int .i64 a_attrs_next, .int .i64 a_attrs_med, .int .i64 a_attrs_pref, .ts .imm 1 (a_attrs_comms.map encInt)]] [] = some (.bool (prefB (⟨⟨a_prefix__addr, a_prefix__len⟩, ⟨a_attrs_origin, a_attrs_path, a_attrs_next, a_attrs_med, a_attrs_pref, a_attrs_comms⟩⟩ : Route).prefix_ && attrsB (⟨⟨a_prefix__addr, a_prefix__len⟩, ⟨a_attrs_origin, a_attrs_path, a_attrs_next, a_attrs_med, a_attrs_pref, a_attrs_comms⟩⟩ : Route).attrs), []) := by
  rw [evFL_at fn9 (by simp)]
  cases hq0 : (prefB (⟨⟨a_prefix__addr, a_prefix__len⟩, ⟨a_attrs_origin, a_attrs_path, a_attrs_next, a_attrs_med, a_attrs_pref, a_attrs_comms⟩⟩ : Route).prefix_ : Bool)
  · simp -implicitDefEqProofs [c9, r9_0, r9_1, h0, h1, call33, callz33, e33, call34, callz34, e34, -List.getElem?_map, -getElem?_pos, -Int.pred_toNat, List.getElem?_cons_zero, map_get, -List.map_take, -List.map_drop, take_map, drop_map, upd_ne, frOf_set, frOf_get, frOf_getD, hq0] <;> try omega
  simp -implicitDefEqProofs [c9, r9_0, r9_1, h0, h1, call33, callz33, e33, call34, callz34, e34, -List.getElem?_map, -getElem?_pos, -Int.pred_toNat, List.getElem?_cons_zero, map_get, -List.map_take, -List.map_drop, take_map, drop_map, upd_ne, frOf_set, frOf_get, frOf_getD, hq0] <;> try omega
-- laws.toPrefix
@[simp] theorem call35 {m : Nat} (args : List AV) (S : St) : evCall T m (evFL T) 35 args S = lendC (evFL T 35) S (lendAll S i35.pes args) := evCall0 fn35 rfl rfl args S
@[simp] theorem callz35 (args : List AV) (S : St) : evCallFz T (evFL T) 35 args S = lendZ (evFL T 35) S i35.res (lendAll S i35.pes args) := evCallFz0 fn35 rfl rfl args S
@[simp] theorem pes35 : i35.pes = [[0, 0]] := rfl
@[simp] theorem body35 : i35.body = c35 := rfl
@[simp] theorem kind35 : i35.kind = 0 := rfl
@[simp] theorem tree35 : i35.tree = false := rfl
@[simp] theorem ntmps35 : i35.ntmps = 11 := rfl
@[simp] theorem results35 : i35.results = [(ResultVar.cell 2 31)] := rfl
@[simp] theorem res35 : i35.res = [[0, 0]] := rfl
theorem e35 (a_addr : Int) (a_len : Int)  : evFL T 35 [.agg [.int .i64 a_addr, .int .i64 a_len]] [] = some (.agg [.int .i64 a_addr, .int .i64 a_len], []) := by
  rw [evFL_at fn35 (by simp)]
  all_goals simp -implicitDefEqProofs [c35, r35_0, r35_1, r35_2, r35_3, r35_4, -List.getElem?_map, -getElem?_pos, -Int.pred_toNat, List.getElem?_cons_zero, map_get, -List.map_take, -List.map_drop, take_map, drop_map, upd_ne, frOf_set, frOf_get, frOf_getD]
theorem fset74 {a : (List Int)} {i : Nat} (h : i < a.length) : (filled encInt [.int .i64 0] a i).set i [.int .i64 (nth a i)] = filled encInt [.int .i64 0] a (i + 1) := filled_set h
-- laws.toIntS
@[simp] theorem call74 {m : Nat} (args : List AV) (S : St) : evCall T m (evFL T) 74 args S = lendC (evFL T 74) S (lendAll S i74.pes args) := evCall0 fn74 rfl rfl args S
@[simp] theorem callz74 (args : List AV) (S : St) : evCallFz T (evFL T) 74 args S = lendZ (evFL T 74) S i74.res (lendAll S i74.pes args) := evCallFz0 fn74 rfl rfl args S
@[simp] theorem pes74 : i74.pes = [[1]] := rfl
@[simp] theorem body74 : i74.body = c74 := rfl
@[simp] theorem kind74 : i74.kind = 0 := rfl
@[simp] theorem tree74 : i74.tree = false := rfl
@[simp] theorem ntmps74 : i74.ntmps = 22 := rfl
@[simp] theorem results74 : i74.results = [(ResultVar.tmp 2)] := rfl
@[simp] theorem res74 : i74.res = [[1]] := rfl
def I74_0 (a : (List Int))  (i : Nat) (fr : Fr) (S : St) : Prop := ∃ f : Nat → AV, fr = frOf 22 f ∧ f 0 = .ts .imm 1 (a.map encInt) ∧ f 3 = .sl 0 0 a.length ∧ f 4 = .int .i64 i ∧ S = [some ⟨.arr, 1, filled encInt [.int .i64 0] a i⟩] ∧ True
def R74_0 (a : (List Int))  (r : Option (Ex × Fr × St)) : Prop := (∃ f : Nat → AV, r = some (.exit 0, frOf 22 f, [some ⟨.arr, 1, filled encInt [.int .i64 0] a a.length⟩]) ∧ f 3 = .sl 0 0 a.length ∧ True)
theorem L74_0 (a : (List Int)) (ha0 : a.length ≤ 1048576)   : ∀ i fr S, i ≤ a.length → I74_0 a  i fr S → R74_0 a  (evCL T 0 (.loop l74_0) fr S) := by
  refine loopQ _ _ _ ?_ ?_
  · rintro i fr S hi ⟨f, rfl, t0, t3, t4, rfl, hf⟩
    have hm : (a.length : Int) ≤ 4294967296 := by omega
    have hm1 : a.length ≤ 4294967296 := by omega
    have hwi : IntKind.i64.wrap ((i : Int) + 1) = (i : Int) + 1 := wrap64 (by omega) (by omega)
    all_goals simp -implicitDefEqProofs [r74_0, r74_1, r74_2, r74_3, r74_4, r74_5, r74_6, l74_0, ha0, -List.getElem?_map, -getElem?_pos, -Int.pred_toNat, List.getElem?_cons_zero, map_get, -List.map_take, -List.map_drop, take_map, drop_map, upd_ne, frOf_set, frOf_get, frOf_getD, encInt, hm, hm1, fset74, filled_get, t0, t3, t4, hi, hwi]
    all_goals first | (refine .go _ _ ⟨_, rfl, (by first | rfl | assumption | simp [upd, *]), (by first | rfl | assumption | simp [upd, *]), (by first | rfl | assumption | simp [upd, *]), rfl, ?_⟩; first | trivial | assumption | simp [*]) | (refine .exit _ _ _ ⟨_, rfl, (by first | rfl | assumption | simp [upd, *]), ?_⟩; first | trivial | assumption | simp [*])
  · rintro fr S ⟨f, rfl, t0, t3, t4, rfl, hf⟩
    have hm : (a.length : Int) ≤ 4294967296 := by omega
    have hm1 : a.length ≤ 4294967296 := by omega
    simp -implicitDefEqProofs [r74_0, r74_1, r74_2, r74_3, r74_4, r74_5, r74_6, l74_0, ha0, -List.getElem?_map, -getElem?_pos, -Int.pred_toNat, List.getElem?_cons_zero, map_get, -List.map_take, -List.map_drop, take_map, drop_map, upd_ne, frOf_set, frOf_get, frOf_getD, encInt, hm, hm1, fset74, filled_get, t0, t3, t4]
    refine .exit _ _ _ ⟨_, rfl, (by first | rfl | assumption | simp [upd, *]), ?_⟩
    first | trivial | assumption | simp [*]
theorem e74 (a : (List Int)) (ha0 : a.length ≤ 1048576) : evFL T 74 [.ts .imm 1 (a.map encInt)] [] = some (.sl 0 0 a.length, [some ⟨.arr, 1, a.map encInt⟩]) := by
  rw [evFL_at fn74 (by simp)]
  have hm : (a.length : Int) ≤ 4294967296 := by omega
  have hm1 : a.length ≤ 4294967296 := by omega
  simp -implicitDefEqProofs [c74, r74_0, r74_1, r74_2, r74_3, r74_4, r74_5, r74_6, ha0, -List.getElem?_map, -getElem?_pos, -Int.pred_toNat, List.getElem?_cons_zero, map_get, -List.map_take, -List.map_drop, take_map, drop_map, upd_ne, frOf_set, frOf_get, frOf_getD, encInt, hm, hm1]
  generalize hr : evCL T 0 (.loop l74_0) _ _ = r
  have h : R74_0 a  r := by rw [← hr]; exact L74_0 a ha0  (0) _ _ (by omega) ⟨_, rfl, (by simp [upd, *]), (by simp [upd, *]), (by simp [upd, *]), by simp [← filled_zero], by first | trivial | assumption | simp⟩
  clear hr
  obtain ⟨f0, rfl, u0_3, hf0⟩ := h
  simp -implicitDefEqProofs [r74_0, r74_1, r74_2, r74_3, r74_4, r74_5, r74_6, ha0, -List.getElem?_map, -getElem?_pos, -Int.pred_toNat, List.getElem?_cons_zero, map_get, -List.map_take, -List.map_drop, take_map, drop_map, upd_ne, frOf_set, frOf_get, frOf_getD, encInt, hm, hm1, u0_3, hf0, filled_end]
-- laws.toAttrs
@[simp] theorem call36 {m : Nat} (args : List AV) (S : St) : evCall T m (evFL T) 36 args S = lendC (evFL T 36) S (lendAll S i36.pes args) := evCall0 fn36 rfl rfl args S
@[simp] theorem callz36 (args : List AV) (S : St) : evCallFz T (evFL T) 36 args S = lendZ (evFL T 36) S i36.res (lendAll S i36.pes args) := evCallFz0 fn36 rfl rfl args S
@[simp] theorem pes36 : i36.pes = [[0, 1, 0, 0, 0, 1]] := rfl
@[simp] theorem body36 : i36.body = c36 := rfl
@[simp] theorem kind36 : i36.kind = 0 := rfl
@[simp] theorem tree36 : i36.tree = false := rfl
@[simp] theorem ntmps36 : i36.ntmps = 25 := rfl
@[simp] theorem results36 : i36.results = [(ResultVar.cell 2 32)] := rfl
@[simp] theorem res36 : i36.res = [[0, 1, 0, 0, 0, 1]] := rfl
theorem e36 (a_origin : Int) (a_path : (List Int)) (a_next : Int) (a_med : Int) (a_pref : Int) (a_comms : (List Int)) (ha0 : a_path.length ≤ 1048576) (ha1 : a_comms.length ≤ 1048576) : evFL T 36 [.agg [.int .i64 a_origin, .ts .imm 1 (a_path.map encInt), .int .i64 a_next, .int .i64 a_med, .int .i64 a_pref, .ts .imm 1 (a_comms.map encInt)]] [] = some (.agg [.int .i64 a_origin, .sl 0 0 a_path.length, .int .i64 a_next, .int .i64 a_med, .int .i64 a_pref, .sl 1 0 a_comms.length], [some ⟨.arr, 1, a_path.map encInt⟩, some ⟨.arr, 1, a_comms.map encInt⟩]) := by
  rw [evFL_at fn36 (by simp)]
  have ef0 := e74 a_path ha0
  have ef1 := e74 a_comms ha1
  all_goals simp -implicitDefEqProofs [c36, r36_0, r36_1, r36_2, r36_3, r36_4, r36_5, r36_6, r36_7, r36_8, ha0, ha1, call74, callz74, e74, -List.getElem?_map, -getElem?_pos, -Int.pred_toNat, List.getElem?_cons_zero, map_get, -List.map_take, -List.map_drop, take_map, drop_map, upd_ne, frOf_set, frOf_get, frOf_getD, ef0, ef1]
-- laws.toRoute
@[simp] theorem call10 {m : Nat} (args : List AV) (S : St) : evCall T m (evFL T) 10 args S = lendC (evFL T 10) S (lendAll S i10.pes args) := evCall0 fn10 rfl rfl args S
@[simp] theorem callz10 (args : List AV) (S : St) : evCallFz T (evFL T) 10 args S = lendZ (evFL T 10) S i10.res (lendAll S i10.pes args) := evCallFz0 fn10 rfl rfl args S
@[simp] theorem pes10 : i10.pes = [[0, 0, 0, 1, 0, 0, 0, 1]] := rfl
@[simp] theorem body10 : i10.body = c10 := rfl
@[simp] theorem kind10 : i10.kind = 0 := rfl
@[simp] theorem tree10 : i10.tree = false := rfl
@[simp] theorem ntmps10 : i10.ntmps = 13 := rfl
@[simp] theorem results10 : i10.results = [(ResultVar.cell 2 34)] := rfl
@[simp] theorem res10 : i10.res = [[0, 0, 0, 1, 0, 0, 0, 1]] := rfl
theorem e10 (a_prefix__addr : Int) (a_prefix__len : Int) (a_attrs_origin : Int) (a_attrs_path : (List Int)) (a_attrs_next : Int) (a_attrs_med : Int) (a_attrs_pref : Int) (a_attrs_comms : (List Int)) (ha0 : a_attrs_path.length ≤ 1048576) (ha1 : a_attrs_comms.length ≤ 1048576) : evFL T 10 [.agg [.int .i64 a_prefix__addr, .int .i64 a_prefix__len, .int .i64 a_attrs_origin, .ts .imm 1 (a_attrs_path.map encInt), .int .i64 a_attrs_next, .int .i64 a_attrs_med, .int .i64 a_attrs_pref, .ts .imm 1 (a_attrs_comms.map encInt)]] [] = some (.agg [.int .i64 a_prefix__addr, .int .i64 a_prefix__len, .int .i64 a_attrs_origin, .sl 0 0 a_attrs_path.length, .int .i64 a_attrs_next, .int .i64 a_attrs_med, .int .i64 a_attrs_pref, .sl 1 0 a_attrs_comms.length], [some ⟨.arr, 1, a_attrs_path.map encInt⟩, some ⟨.arr, 1, a_attrs_comms.map encInt⟩]) := by
  rw [evFL_at fn10 (by simp)]
  have ef0 := e36 a_attrs_origin a_attrs_path a_attrs_next a_attrs_med a_attrs_pref a_attrs_comms ha0 ha1
  all_goals simp -implicitDefEqProofs [c10, r10_0, r10_1, r10_2, r10_3, r10_4, ha0, ha1, call35, callz35, e35, call36, callz36, e36, -List.getElem?_map, -getElem?_pos, -Int.pred_toNat, List.getElem?_cons_zero, map_get, -List.map_take, -List.map_drop, take_map, drop_map, upd_ne, frOf_set, frOf_get, frOf_getD, ef0]
-- impl.within
@[simp] theorem call75 {m : Nat} (args : List AV) (S : St) : evCall T m (evFL T) 75 args S = lendC (evFL T 75) S (lendAll S i75.pes args) := evCall0 fn75 rfl rfl args S
@[simp] theorem callz75 (args : List AV) (S : St) : evCallFz T (evFL T) 75 args S = lendZ (evFL T 75) S i75.res (lendAll S i75.pes args) := evCallFz0 fn75 rfl rfl args S
@[simp] theorem pes75 : i75.pes = [[0], [0], [0]] := rfl
@[simp] theorem body75 : i75.body = c75 := rfl
@[simp] theorem kind75 : i75.kind = 0 := rfl
@[simp] theorem tree75 : i75.tree = false := rfl
@[simp] theorem ntmps75 : i75.ntmps = 15 := rfl
@[simp] theorem results75 : i75.results = [(ResultVar.tmp 6)] := rfl
@[simp] theorem res75 : i75.res = [[0]] := rfl
theorem e75 (a : Int) (b : Int) (c : Int)  : evFL T 75 [.int .i64 a, .int .i64 b, .int .i64 c] [] = some (.bool (inR a b c), []) := by
  rw [evFL_at fn75 (by simp)]
  by_cases hc0 : b ≤ a
  all_goals simp -implicitDefEqProofs [c75, r75_0, r75_1, -List.getElem?_map, -getElem?_pos, -Int.pred_toNat, List.getElem?_cons_zero, map_get, -List.map_take, -List.map_drop, take_map, drop_map, upd_ne, frOf_set, frOf_get, frOf_getD, inR, hc0]
-- impl.isAddr
@[simp] theorem call76 {m : Nat} (args : List AV) (S : St) : evCall T m (evFL T) 76 args S = lendC (evFL T 76) S (lendAll S i76.pes args) := evCall0 fn76 rfl rfl args S
@[simp] theorem callz76 (args : List AV) (S : St) : evCallFz T (evFL T) 76 args S = lendZ (evFL T 76) S i76.res (lendAll S i76.pes args) := evCallFz0 fn76 rfl rfl args S
@[simp] theorem pes76 : i76.pes = [[0]] := rfl
@[simp] theorem body76 : i76.body = c76 := rfl
@[simp] theorem kind76 : i76.kind = 0 := rfl
@[simp] theorem tree76 : i76.tree = false := rfl
@[simp] theorem ntmps76 : i76.ntmps = 5 := rfl
@[simp] theorem results76 : i76.results = [(ResultVar.tmp 2)] := rfl
@[simp] theorem res76 : i76.res = [[0]] := rfl
theorem e76 (a : Int)  : evFL T 76 [.int .i64 a] [] = some (.bool (inR a 0 4294967295), []) := by
  rw [evFL_at fn76 (by simp)]
  all_goals simp -implicitDefEqProofs [c76, r76_0, r76_1, call75, callz75, e75, -List.getElem?_map, -getElem?_pos, -Int.pred_toNat, List.getElem?_cons_zero, map_get, -List.map_take, -List.map_drop, take_map, drop_map, upd_ne, frOf_set, frOf_get, frOf_getD]
-- impl.sizeOf
@[simp] theorem call77 {m : Nat} (args : List AV) (S : St) : evCall T m (evFL T) 77 args S = lendC (evFL T 77) S (lendAll S i77.pes args) := evCall0 fn77 rfl rfl args S
@[simp] theorem callz77 (args : List AV) (S : St) : evCallFz T (evFL T) 77 args S = lendZ (evFL T 77) S i77.res (lendAll S i77.pes args) := evCallFz0 fn77 rfl rfl args S
@[simp] theorem pes77 : i77.pes = [[0]] := rfl
@[simp] theorem body77 : i77.body = c77 := rfl
@[simp] theorem kind77 : i77.kind = 0 := rfl
@[simp] theorem tree77 : i77.tree = false := rfl
@[simp] theorem ntmps77 : i77.ntmps = 6 := rfl
@[simp] theorem results77 : i77.results = [(ResultVar.tmp 2)] := rfl
@[simp] theorem res77 : i77.res = [[0]] := rfl
theorem e77 (a : Int) (h1 : 0 ≤ a) (h2 : a ≤ 32) : evFL T 77 [.int .i64 a] [] = some (.int .i64 (2 ^ (32 - a).toNat), []) := by
  rw [evFL_at fn77 (by simp)]
  obtain ⟨k, hk⟩ : ∃ k : Nat, 32 - a = (k : Int) := ⟨(32 - a).toNat, by omega⟩
  have hk2 : k ≤ 32 := by omega
  have hk0 : ¬ ((k : Int) < 0) := by omega
  have hw1 : IntKind.i64.wrap (k : Int) = (k : Int) := wrap64 (by omega) (by omega)
  have hw2 : IntKind.u64.wrap (k : Int) = (k : Int) := wrapu64 (by omega) (by omega)
  simp -implicitDefEqProofs [c77, r77_0, r77_1, h1, h2, -List.getElem?_map, -getElem?_pos, -Int.pred_toNat, List.getElem?_cons_zero, map_get, -List.map_take, -List.map_drop, take_map, drop_map, upd_ne, frOf_set, frOf_get, frOf_getD, hk, hk0, hw1, hw2, min_bits hk2, pow_small hk2]
-- impl.GoodPrefix
@[simp] theorem call37 {m : Nat} (args : List AV) (S : St) : evCall T m (evFL T) 37 args S = lendC (evFL T 37) S (lendAll S i37.pes args) := evCall0 fn37 rfl rfl args S
@[simp] theorem callz37 (args : List AV) (S : St) : evCallFz T (evFL T) 37 args S = lendZ (evFL T 37) S i37.res (lendAll S i37.pes args) := evCallFz0 fn37 rfl rfl args S
@[simp] theorem pes37 : i37.pes = [[0, 0]] := rfl
@[simp] theorem body37 : i37.body = c37 := rfl
@[simp] theorem kind37 : i37.kind = 0 := rfl
@[simp] theorem tree37 : i37.tree = false := rfl
@[simp] theorem ntmps37 : i37.ntmps = 20 := rfl
@[simp] theorem results37 : i37.results = [(ResultVar.tmp 2)] := rfl
@[simp] theorem res37 : i37.res = [[0]] := rfl
theorem e37 (a_addr : Int) (a_len : Int)  : evFL T 37 [.agg [.int .i64 a_addr, .int .i64 a_len]] [] = some (.bool (prefB (⟨a_addr, a_len⟩ : Prefix)), []) := by
  rw [evFL_at fn37 (by simp)]
  cases hq0 : inR a_len 0 32
  · simp -implicitDefEqProofs [c37, r37_0, r37_1, call75, callz75, e75, call76, callz76, e76, call77, callz77, e77, -List.getElem?_map, -getElem?_pos, -Int.pred_toNat, List.getElem?_cons_zero, map_get, -List.map_take, -List.map_drop, take_map, drop_map, upd_ne, frOf_set, frOf_get, frOf_getD, hq0, prefB]
  cases hq1 : inR a_addr 0 4294967295
  · simp -implicitDefEqProofs [c37, r37_0, r37_1, call75, callz75, e75, call76, callz76, e76, call77, callz77, e77, -List.getElem?_map, -getElem?_pos, -Int.pred_toNat, List.getElem?_cons_zero, map_get, -List.map_take, -List.map_drop, take_map, drop_map, upd_ne, frOf_set, frOf_get, frOf_getD, hq0, hq1, prefB]
  have hl : 0 ≤ a_len ∧ a_len ≤ 32 := by simpa [inR] using hq0
  obtain ⟨hl1, hl2⟩ := hl
  simp -implicitDefEqProofs [c37, r37_0, r37_1, call75, callz75, e75, call76, callz76, e76, call77, callz77, e77, -List.getElem?_map, -getElem?_pos, -Int.pred_toNat, List.getElem?_cons_zero, map_get, -List.map_take, -List.map_drop, take_map, drop_map, upd_ne, frOf_set, frOf_get, frOf_getD, hq0, hq1, hl1, hl2, pow_ne, prefB]
-- slices.IndexFunc[[]int,int]
@[simp] theorem call133 {m : Nat} (args : List AV) (S : St) : evCall T m (evFL T) 133 args S = lendC (evFL T 133) S (lendAll S i133.pes args) := evCall0 fn133 rfl rfl args S
@[simp] theorem callz133 (args : List AV) (S : St) : evCallFz T (evFL T) 133 args S = lendZ (evFL T 133) S i133.res (lendAll S i133.pes args) := evCallFz0 fn133 rfl rfl args S
@[simp] theorem pes133 : i133.pes = [[1], [0]] := rfl
@[simp] theorem body133 : i133.body = c133 := rfl
@[simp] theorem kind133 : i133.kind = 0 := rfl
@[simp] theorem tree133 : i133.tree = false := rfl
@[simp] theorem ntmps133 : i133.ntmps = 19 := rfl
@[simp] theorem results133 : i133.results = [(ResultVar.tmp 4)] := rfl
@[simp] theorem res133 : i133.res = [[0]] := rfl
def I133_0 (a : (List Int)) (g : Nat) (caps : List AV) (p : Int → Bool)  (i : Nat) (fr : Fr) (S : St) : Prop := ∃ f : Nat → AV, fr = frOf 19 f ∧ f 0 = .ts .imm 1 (a.map encInt) ∧ f 1 = .fn g caps ∧ f 7 = .int .i64 a.length ∧ f 8 = .int .i64 i ∧ S = [] ∧ ∀ j, j < i → p (nth a j) = false
def R133_0 (a : (List Int)) (g : Nat) (caps : List AV) (p : Int → Bool)  (r : Option (Ex × Fr × St)) : Prop := (∃ f : Nat → AV, ∃ j : Int, r = some (.ret, frOf 19 f, []) ∧ f 4 = .int .i64 j ∧ idxF p a = j) ∨ (∃ f : Nat → AV, r = some (.exit 0, frOf 19 f, []) ∧ idxF p a = -1)
theorem L133_0 (a : (List Int)) (g : Nat) (caps : List AV) (p : Int → Bool) (hp : ∀ x ∈ a, ∀ (m : Nat) (S : St), evCall T m (evFL T) g (.int .i64 x :: caps) S = some (.bool (p x), S)) (hn : a.length ≤ 9223372036854775807)   : ∀ i fr S, i ≤ a.length → I133_0 a g caps p  i fr S → R133_0 a g caps p  (evCL T 0 (.loop l133_0) fr S) := by
  refine loopQ _ _ _ ?_ ?_
  · rintro i fr S hi ⟨f, rfl, t0, t1, t7, t8, rfl, hf⟩
    have hwi : IntKind.i64.wrap ((i : Int) + 1) = (i : Int) + 1 := wrap64 (by omega) (by omega)
    have hpi := hp (nth a i) (nth_mem hi) 0
    cases hc : p (nth a i)
    · simp -implicitDefEqProofs [r133_0, r133_1, r133_2, r133_3, r133_4, r133_5, r133_6, r133_7, l133_0, hp, hn, -List.getElem?_map, -getElem?_pos, -Int.pred_toNat, List.getElem?_cons_zero, map_get, -List.map_take, -List.map_drop, take_map, drop_map, upd_ne, frOf_set, frOf_get, frOf_getD, encInt, t0, t1, t7, t8, hi, hwi, hpi, hc]
      refine .go _ _ ⟨_, rfl, (by first | rfl | assumption | simp [upd, *]), (by first | rfl | assumption | simp [upd, *]), (by first | rfl | assumption | simp [upd, *]), (by first | rfl | assumption | simp [upd, *]), rfl, ?_⟩; exact none_succ hf hc
    · simp -implicitDefEqProofs [r133_0, r133_1, r133_2, r133_3, r133_4, r133_5, r133_6, r133_7, l133_0, hp, hn, -List.getElem?_map, -getElem?_pos, -Int.pred_toNat, List.getElem?_cons_zero, map_get, -List.map_take, -List.map_drop, take_map, drop_map, upd_ne, frOf_set, frOf_get, frOf_getD, encInt, t0, t1, t7, t8, hi, hwi, hpi, hc]
      refine .ret _ _ (Or.inl ⟨_, _, rfl, (by first | rfl | assumption | simp [upd, *]), ?_⟩); exact idxF_hit hi hf hc
  · rintro fr S ⟨f, rfl, t0, t1, t7, t8, rfl, hf⟩
    simp -implicitDefEqProofs [r133_0, r133_1, r133_2, r133_3, r133_4, r133_5, r133_6, r133_7, l133_0, hp, hn, -List.getElem?_map, -getElem?_pos, -Int.pred_toNat, List.getElem?_cons_zero, map_get, -List.map_take, -List.map_drop, take_map, drop_map, upd_ne, frOf_set, frOf_get, frOf_getD, encInt, t0, t1, t7, t8]
    refine .exit _ _ _ (Or.inr ⟨_, rfl, ?_⟩)
    exact idxF_miss hf
theorem e133 (a : (List Int)) (g : Nat) (caps : List AV) (p : Int → Bool) (hp : ∀ x ∈ a, ∀ (m : Nat) (S : St), evCall T m (evFL T) g (.int .i64 x :: caps) S = some (.bool (p x), S)) (hn : a.length ≤ 9223372036854775807) : evFL T 133 [.ts .imm 1 (a.map encInt), .fn g caps] [] = some (.int .i64 (idxF p a), []) := by
  rw [evFL_at fn133 (by simp)]
  simp -implicitDefEqProofs [c133, r133_0, r133_1, r133_2, r133_3, r133_4, r133_5, r133_6, r133_7, hp, hn, -List.getElem?_map, -getElem?_pos, -Int.pred_toNat, List.getElem?_cons_zero, map_get, -List.map_take, -List.map_drop, take_map, drop_map, upd_ne, frOf_set, frOf_get, frOf_getD, encInt]
  generalize hr : evCL T 0 (.loop l133_0) _ _ = r
  have h : R133_0 a g caps p  r := by rw [← hr]; exact L133_0 a g caps p hp hn  (0) _ _ (by omega) ⟨_, rfl, (by simp [upd, *]), (by simp [upd, *]), (by simp [upd, *]), (by simp [upd, *]), rfl, by simp⟩
  clear hr
  rcases h with h | h
  · obtain ⟨f0, j, rfl, u0_4, hf0⟩ := h
    simp -implicitDefEqProofs [r133_0, r133_1, r133_2, r133_3, r133_4, r133_5, r133_6, r133_7, hp, hn, -List.getElem?_map, -getElem?_pos, -Int.pred_toNat, List.getElem?_cons_zero, map_get, -List.map_take, -List.map_drop, take_map, drop_map, upd_ne, frOf_set, frOf_get, frOf_getD, encInt, u0_4, hf0] <;> try omega
  obtain ⟨f0, rfl, hf0⟩ := h
  simp -implicitDefEqProofs [r133_0, r133_1, r133_2, r133_3, r133_4, r133_5, r133_6, r133_7, hp, hn, -List.getElem?_map, -getElem?_pos, -Int.pred_toNat, List.getElem?_cons_zero, map_get, -List.map_take, -List.map_drop, take_map, drop_map, upd_ne, frOf_set, frOf_get, frOf_getD, encInt, hf0] <;> try omega
-- slices.ContainsFunc[[]int,int]
@[simp] theorem call120 {m : Nat} (args : List AV) (S : St) : evCall T m (evFL T) 120 args S = lendC (evFL T 120) S (lendAll S i120.pes args) := evCall0 fn120 rfl rfl args S
@[simp] theorem callz120 (args : List AV) (S : St) : evCallFz T (evFL T) 120 args S = lendZ (evFL T 120) S i120.res (lendAll S i120.pes args) := evCallFz0 fn120 rfl rfl args S
@[simp] theorem pes120 : i120.pes = [[1], [0]] := rfl
@[simp] theorem body120 : i120.body = c120 := rfl
@[simp] theorem kind120 : i120.kind = 0 := rfl
@[simp] theorem tree120 : i120.tree = false := rfl
@[simp] theorem ntmps120 : i120.ntmps = 9 := rfl
@[simp] theorem results120 : i120.results = [(ResultVar.tmp 4)] := rfl
@[simp] theorem res120 : i120.res = [[0]] := rfl
theorem e120 (a : (List Int)) (g : Nat) (caps : List AV) (p : Int → Bool) (hp : ∀ x ∈ a, ∀ (m : Nat) (S : St), evCall T m (evFL T) g (.int .i64 x :: caps) S = some (.bool (p x), S)) (hn : a.length ≤ 9223372036854775807) (hcaps : ∀ S, mapO (lendPtr S) caps = some caps) : evFL T 120 [.ts .imm 1 (a.map encInt), .fn g caps] [] = some (.bool (a.any p), []) := by
  rw [evFL_at fn120 (by simp)]
  have he := e133 a g caps p hp hn
  all_goals simp -implicitDefEqProofs [c120, r120_0, r120_1, hp, hn, hcaps, call133, callz133, e133, -List.getElem?_map, -getElem?_pos, -Int.pred_toNat, List.getElem?_cons_zero, map_get, -List.map_take, -List.map_drop, take_map, drop_map, upd_ne, frOf_set, frOf_get, frOf_getD, he, idxF_any]
-- impl.isAsn
@[simp] theorem call91 {m : Nat} (args : List AV) (S : St) : evCall T m (evFL T) 91 args S = lendC (evFL T 91) S (lendAll S i91.pes args) := evCall0 fn91 rfl rfl args S
@[simp] theorem callz91 (args : List AV) (S : St) : evCallFz T (evFL T) 91 args S = lendZ (evFL T 91) S i91.res (lendAll S i91.pes args) := evCallFz0 fn91 rfl rfl args S
@[simp] theorem pes91 : i91.pes = [[0]] := rfl
@[simp] theorem body91 : i91.body = c91 := rfl
@[simp] theorem kind91 : i91.kind = 0 := rfl
@[simp] theorem tree91 : i91.tree = false := rfl
@[simp] theorem ntmps91 : i91.ntmps = 5 := rfl
@[simp] theorem results91 : i91.results = [(ResultVar.tmp 2)] := rfl
@[simp] theorem res91 : i91.res = [[0]] := rfl
theorem e91 (a : Int)  : evFL T 91 [.int .i64 a] [] = some (.bool (inR a 1 65535), []) := by
  rw [evFL_at fn91 (by simp)]
  all_goals simp -implicitDefEqProofs [c91, r91_0, r91_1, call75, callz75, e75, -List.getElem?_map, -getElem?_pos, -Int.pred_toNat, List.getElem?_cons_zero, map_get, -List.map_take, -List.map_drop, take_map, drop_map, upd_ne, frOf_set, frOf_get, frOf_getD]
-- impl.isPath$1
@[simp] theorem call121 {m : Nat} (args : List AV) (S : St) : evCall T m (evFL T) 121 args S = lendC (evFL T 121) S (lendAll S i121.pes args) := evCall0 fn121 rfl rfl args S
@[simp] theorem callz121 (args : List AV) (S : St) : evCallFz T (evFL T) 121 args S = lendZ (evFL T 121) S i121.res (lendAll S i121.pes args) := evCallFz0 fn121 rfl rfl args S
@[simp] theorem pes121 : i121.pes = [[0]] := rfl
@[simp] theorem body121 : i121.body = c121 := rfl
@[simp] theorem kind121 : i121.kind = 0 := rfl
@[simp] theorem tree121 : i121.tree = false := rfl
@[simp] theorem ntmps121 : i121.ntmps = 6 := rfl
@[simp] theorem results121 : i121.results = [(ResultVar.tmp 2)] := rfl
@[simp] theorem res121 : i121.res = [[0]] := rfl
theorem e121 (a : Int)  : evFL T 121 [.int .i64 a] [] = some (.bool (!inR a 1 65535), []) := by
  rw [evFL_at fn121 (by simp)]
  all_goals simp -implicitDefEqProofs [c121, r121_0, r121_1, call91, callz91, e91, -List.getElem?_map, -getElem?_pos, -Int.pred_toNat, List.getElem?_cons_zero, map_get, -List.map_take, -List.map_drop, take_map, drop_map, upd_ne, frOf_set, frOf_get, frOf_getD]
-- impl.isPath
@[simp] theorem call78 {m : Nat} (args : List AV) (S : St) : evCall T m (evFL T) 78 args S = lendC (evFL T 78) S (lendAll S i78.pes args) := evCall0 fn78 rfl rfl args S
@[simp] theorem callz78 (args : List AV) (S : St) : evCallFz T (evFL T) 78 args S = lendZ (evFL T 78) S i78.res (lendAll S i78.pes args) := evCallFz0 fn78 rfl rfl args S
@[simp] theorem pes78 : i78.pes = [[1]] := rfl
@[simp] theorem body78 : i78.body = c78 := rfl
@[simp] theorem kind78 : i78.kind = 0 := rfl
@[simp] theorem tree78 : i78.tree = false := rfl
@[simp] theorem ntmps78 : i78.ntmps = 11 := rfl
@[simp] theorem results78 : i78.results = [(ResultVar.tmp 2)] := rfl
@[simp] theorem res78 : i78.res = [[0]] := rfl
theorem e78 (a : (List Int)) (h0 : a.length ≤ 1048576) : evFL T 78 [.ts .imm 1 (a.map encInt)] [] = some (.bool (pathB a), []) := by
  rw [evFL_at fn78 (by simp)]
  have he := e120 a 121 [] (fun n => !inR n 1 65535) (fun x hx m S => by simp [e121]) (by omega) (fun _ => rfl)
  cases hq0 : (decide ((a.length : Int) ≤ 10) : Bool)
  · simp -implicitDefEqProofs [c78, r78_0, r78_1, h0, call120, callz120, e120, call121, callz121, e121, -List.getElem?_map, -getElem?_pos, -Int.pred_toNat, List.getElem?_cons_zero, map_get, -List.map_take, -List.map_drop, take_map, drop_map, upd_ne, frOf_set, frOf_get, frOf_getD, hq0, he, pathB, any_neg] <;> try omega
  simp -implicitDefEqProofs [c78, r78_0, r78_1, h0, call120, callz120, e120, call121, callz121, e121, -List.getElem?_map, -getElem?_pos, -Int.pred_toNat, List.getElem?_cons_zero, map_get, -List.map_take, -List.map_drop, take_map, drop_map, upd_ne, frOf_set, frOf_get, frOf_getD, hq0, he, pathB, any_neg] <;> try omega
-- impl.isValue
@[simp] theorem call79 {m : Nat} (args : List AV) (S : St) : evCall T m (evFL T) 79 args S = lendC (evFL T 79) S (lendAll S i79.pes args) := evCall0 fn79 rfl rfl args S
@[simp] theorem callz79 (args : List AV) (S : St) : evCallFz T (evFL T) 79 args S = lendZ (evFL T 79) S i79.res (lendAll S i79.pes args) := evCallFz0 fn79 rfl rfl args S
@[simp] theorem pes79 : i79.pes = [[0]] := rfl
@[simp] theorem body79 : i79.body = c79 := rfl
@[simp] theorem kind79 : i79.kind = 0 := rfl
@[simp] theorem tree79 : i79.tree = false := rfl
@[simp] theorem ntmps79 : i79.ntmps = 5 := rfl
@[simp] theorem results79 : i79.results = [(ResultVar.tmp 2)] := rfl
@[simp] theorem res79 : i79.res = [[0]] := rfl
theorem e79 (a : Int)  : evFL T 79 [.int .i64 a] [] = some (.bool (inR a 0 1000000), []) := by
  rw [evFL_at fn79 (by simp)]
  all_goals simp -implicitDefEqProofs [c79, r79_0, r79_1, call75, callz75, e75, -List.getElem?_map, -getElem?_pos, -Int.pred_toNat, List.getElem?_cons_zero, map_get, -List.map_take, -List.map_drop, take_map, drop_map, upd_ne, frOf_set, frOf_get, frOf_getD]
-- impl.areComms
@[simp] theorem call80 {m : Nat} (args : List AV) (S : St) : evCall T m (evFL T) 80 args S = lendC (evFL T 80) S (lendAll S i80.pes args) := evCall0 fn80 rfl rfl args S
@[simp] theorem callz80 (args : List AV) (S : St) : evCallFz T (evFL T) 80 args S = lendZ (evFL T 80) S i80.res (lendAll S i80.pes args) := evCallFz0 fn80 rfl rfl args S
@[simp] theorem pes80 : i80.pes = [[1]] := rfl
@[simp] theorem body80 : i80.body = c80 := rfl
@[simp] theorem kind80 : i80.kind = 0 := rfl
@[simp] theorem tree80 : i80.tree = false := rfl
@[simp] theorem ntmps80 : i80.ntmps = 32 := rfl
@[simp] theorem results80 : i80.results = [(ResultVar.tmp 2)] := rfl
@[simp] theorem res80 : i80.res = [[0]] := rfl
def I80_0 (a : (List Int))  (i : Nat) (fr : Fr) (S : St) : Prop := ∃ f : Nat → AV, fr = frOf 32 f ∧ f 0 = .ts .imm 1 (a.map encInt) ∧ f 5 = .ts .imm 1 (a.map encInt) ∧ f 6 = .int .i64 a.length ∧ f 7 = .int .i64 i ∧ S = [] ∧ allB i (commP a) = true
def R80_0 (a : (List Int))  (r : Option (Ex × Fr × St)) : Prop := (∃ f : Nat → AV, r = some (.ret, frOf 32 f, []) ∧ f 2 = .bool false ∧ allB a.length (commP a) = false) ∨ (∃ f : Nat → AV, r = some (.exit 0, frOf 32 f, []) ∧ f 0 = .ts .imm 1 (a.map encInt) ∧ allB a.length (commP a) = true)
theorem L80_0 (a : (List Int)) (h0 : a.length ≤ 1048576)   : ∀ i fr S, i ≤ a.length → I80_0 a  i fr S → R80_0 a  (evCL T 0 (.loop l80_0) fr S) := by
  refine loopQ _ _ _ ?_ ?_
  · rintro i fr S hi ⟨f, rfl, t0, t5, t6, t7, rfl, hf⟩
    have hwi : IntKind.i64.wrap ((i : Int) + 1) = (i : Int) + 1 := wrap64 (by omega) (by omega)
    rcases i with _ | i
    · by_cases hc : inR (nth a 0) 0 1000000 = true
      · simp -implicitDefEqProofs [r80_0, r80_1, r80_2, r80_3, r80_4, r80_5, r80_6, r80_7, l80_0, h0, call79, callz79, e79, -List.getElem?_map, -getElem?_pos, -Int.pred_toNat, List.getElem?_cons_zero, map_get, -List.map_take, -List.map_drop, take_map, drop_map, upd_ne, frOf_set, frOf_get, frOf_getD, encInt, t0, t5, t6, t7, hi, hwi, hc]
        refine .go _ _ ⟨_, rfl, (by first | rfl | assumption | simp [upd, *]), (by first | rfl | assumption | simp [upd, *]), (by first | rfl | assumption | simp [upd, *]), (by first | rfl | assumption | simp [upd, *]), rfl, ?_⟩; simp [allB_succ, commP, hc]
      · simp -implicitDefEqProofs [r80_0, r80_1, r80_2, r80_3, r80_4, r80_5, r80_6, r80_7, l80_0, h0, call79, callz79, e79, -List.getElem?_map, -getElem?_pos, -Int.pred_toNat, List.getElem?_cons_zero, map_get, -List.map_take, -List.map_drop, take_map, drop_map, upd_ne, frOf_set, frOf_get, frOf_getD, encInt, t0, t5, t6, t7, hi, hwi, hc]
        refine .ret _ _ (Or.inl ⟨_, rfl, (by first | rfl | assumption | simp [upd, *]), ?_⟩); exact allB_no hi (by simp [commP, hc])
    · have hs : (i : Int) + 1 < (a.length : Int) := by omega
      have hz : (0 : Int) ≤ (i : Int) + 1 := by omega
      have hp : (0 : Int) < (i : Int) + 1 := by omega
      have hw0 : IntKind.i64.wrap (i : Int) = (i : Int) := wrap64 (by omega) (by omega)
      have hw1 : IntKind.i64.wrap ((i : Int) + 1 + 1) = (i : Int) + 1 + 1 := wrap64 (by omega) (by omega)
      have hi2 := Nat.lt_of_succ_lt hi
      by_cases hc : inR (nth a (i + 1)) 0 1000000 = true
      · by_cases hd : nth a (i + 1) ≤ nth a i
        · simp -implicitDefEqProofs [r80_0, r80_1, r80_2, r80_3, r80_4, r80_5, r80_6, r80_7, l80_0, h0, call79, callz79, e79, -List.getElem?_map, -getElem?_pos, -Int.pred_toNat, List.getElem?_cons_zero, map_get, -List.map_take, -List.map_drop, take_map, drop_map, upd_ne, frOf_set, frOf_get, frOf_getD, encInt, t0, t5, t6, t7, hi, hi2, hs, hz, hp, hw0, hw1, hwi, hc, hd]
          refine .ret _ _ (Or.inl ⟨_, rfl, (by first | rfl | assumption | simp [upd, *]), ?_⟩); exact allB_no hi (by simp [commP]; omega)
        · simp -implicitDefEqProofs [r80_0, r80_1, r80_2, r80_3, r80_4, r80_5, r80_6, r80_7, l80_0, h0, call79, callz79, e79, -List.getElem?_map, -getElem?_pos, -Int.pred_toNat, List.getElem?_cons_zero, map_get, -List.map_take, -List.map_drop, take_map, drop_map, upd_ne, frOf_set, frOf_get, frOf_getD, encInt, t0, t5, t6, t7, hi, hi2, hs, hz, hp, hw0, hw1, hwi, hc, hd]
          refine .go _ _ ⟨_, rfl, (by first | rfl | assumption | simp [upd, *]), (by first | rfl | assumption | simp [upd, *]), (by first | rfl | assumption | simp [upd, *]), (by first | rfl | assumption | simp [upd, *]), rfl, ?_⟩; simp [allB_succ, commP, hc] at hf ⊢; simp [hf]; omega
      · simp -implicitDefEqProofs [r80_0, r80_1, r80_2, r80_3, r80_4, r80_5, r80_6, r80_7, l80_0, h0, call79, callz79, e79, -List.getElem?_map, -getElem?_pos, -Int.pred_toNat, List.getElem?_cons_zero, map_get, -List.map_take, -List.map_drop, take_map, drop_map, upd_ne, frOf_set, frOf_get, frOf_getD, encInt, t0, t5, t6, t7, hi, hi2, hs, hz, hp, hw0, hw1, hwi, hc]
        refine .ret _ _ (Or.inl ⟨_, rfl, (by first | rfl | assumption | simp [upd, *]), ?_⟩); exact allB_no hi (by simp [commP, hc])
  · rintro fr S ⟨f, rfl, t0, t5, t6, t7, rfl, hf⟩
    simp -implicitDefEqProofs [r80_0, r80_1, r80_2, r80_3, r80_4, r80_5, r80_6, r80_7, l80_0, h0, call79, callz79, e79, -List.getElem?_map, -getElem?_pos, -Int.pred_toNat, List.getElem?_cons_zero, map_get, -List.map_take, -List.map_drop, take_map, drop_map, upd_ne, frOf_set, frOf_get, frOf_getD, encInt, t0, t5, t6, t7]
    refine .exit _ _ _ (Or.inr ⟨_, rfl, (by first | rfl | assumption | simp [upd, *]), ?_⟩)
    first | trivial | assumption | simp [*]
theorem e80 (a : (List Int)) (h0 : a.length ≤ 1048576) : evFL T 80 [.ts .imm 1 (a.map encInt)] [] = some (.bool (commsB a), []) := by
  rw [evFL_at fn80 (by simp)]
  simp -implicitDefEqProofs [c80, r80_0, r80_1, r80_2, r80_3, r80_4, r80_5, r80_6, r80_7, h0, call79, callz79, e79, -List.getElem?_map, -getElem?_pos, -Int.pred_toNat, List.getElem?_cons_zero, map_get, -List.map_take, -List.map_drop, take_map, drop_map, upd_ne, frOf_set, frOf_get, frOf_getD, encInt]
  generalize hr : evCL T 0 (.loop l80_0) _ _ = r
  have h : R80_0 a  r := by rw [← hr]; exact L80_0 a h0  (0) _ _ (by omega) ⟨_, rfl, (by simp [upd, *]), (by simp [upd, *]), (by simp [upd, *]), (by simp [upd, *]), rfl, by first | trivial | assumption | simp⟩
  clear hr
  rcases h with h | h
  · obtain ⟨f0, rfl, u0_2, hf0⟩ := h
    simp -implicitDefEqProofs [r80_0, r80_1, r80_2, r80_3, r80_4, r80_5, r80_6, r80_7, h0, call79, callz79, e79, -List.getElem?_map, -getElem?_pos, -Int.pred_toNat, List.getElem?_cons_zero, map_get, -List.map_take, -List.map_drop, take_map, drop_map, upd_ne, frOf_set, frOf_get, frOf_getD, encInt, u0_2, hf0, commsB]
  obtain ⟨f0, rfl, u0_0, hf0⟩ := h
  simp -implicitDefEqProofs [r80_0, r80_1, r80_2, r80_3, r80_4, r80_5, r80_6, r80_7, h0, call79, callz79, e79, -List.getElem?_map, -getElem?_pos, -Int.pred_toNat, List.getElem?_cons_zero, map_get, -List.map_take, -List.map_drop, take_map, drop_map, upd_ne, frOf_set, frOf_get, frOf_getD, encInt, u0_0, hf0, commsB]
-- impl.GoodAttrs
@[simp] theorem call38 {m : Nat} (args : List AV) (S : St) : evCall T m (evFL T) 38 args S = lendC (evFL T 38) S (lendAll S i38.pes args) := evCall0 fn38 rfl rfl args S
@[simp] theorem callz38 (args : List AV) (S : St) : evCallFz T (evFL T) 38 args S = lendZ (evFL T 38) S i38.res (lendAll S i38.pes args) := evCallFz0 fn38 rfl rfl args S
@[simp] theorem pes38 : i38.pes = [[0, 1, 0, 0, 0, 1]] := rfl
@[simp] theorem body38 : i38.body = c38 := rfl
@[simp] theorem kind38 : i38.kind = 0 := rfl
@[simp] theorem tree38 : i38.tree = false := rfl
@[simp] theorem ntmps38 : i38.ntmps = 31 := rfl
@[simp] theorem results38 : i38.results = [(ResultVar.tmp 2)] := rfl
@[simp] theorem res38 : i38.res = [[0]] := rfl
theorem e38 (a_origin : Int) (a_path : (List Int)) (a_next : Int) (a_med : Int) (a_pref : Int) (a_comms : (List Int)) (h0 : a_path.length ≤ 1048576) (h1 : a_comms.length ≤ 1048576) : evFL T 38 [.agg [.int .i64 a_origin, .ts .imm 1 (a_path.map encInt), .int .i64 a_next, .int .i64 a_med, .int .i64 a_pref, .ts .imm 1 (a_comms.map encInt)]] [] = some (.bool (attrsB (⟨a_origin, a_path, a_next, a_med, a_pref, a_comms⟩ : Attrs)), []) := by
  rw [evFL_at fn38 (by simp)]
  cases hq0 : (inR a_origin 0 2 : Bool)
  · simp -implicitDefEqProofs [c38, r38_0, r38_1, h0, h1, call75, callz75, e75, call76, callz76, e76, call78, callz78, e78, call79, callz79, e79, call80, callz80, e80, -List.getElem?_map, -getElem?_pos, -Int.pred_toNat, List.getElem?_cons_zero, map_get, -List.map_take, -List.map_drop, take_map, drop_map, upd_ne, frOf_set, frOf_get, frOf_getD, hq0, attrsB] <;> try omega
  cases hq1 : (pathB a_path : Bool)
  · simp -implicitDefEqProofs [c38, r38_0, r38_1, h0, h1, call75, callz75, e75, call76, callz76, e76, call78, callz78, e78, call79, callz79, e79, call80, callz80, e80, -List.getElem?_map, -getElem?_pos, -Int.pred_toNat, List.getElem?_cons_zero, map_get, -List.map_take, -List.map_drop, take_map, drop_map, upd_ne, frOf_set, frOf_get, frOf_getD, hq0, hq1, attrsB] <;> try omega
  cases hq2 : (inR a_next 0 4294967295 : Bool)
  · simp -implicitDefEqProofs [c38, r38_0, r38_1, h0, h1, call75, callz75, e75, call76, callz76, e76, call78, callz78, e78, call79, callz79, e79, call80, callz80, e80, -List.getElem?_map, -getElem?_pos, -Int.pred_toNat, List.getElem?_cons_zero, map_get, -List.map_take, -List.map_drop, take_map, drop_map, upd_ne, frOf_set, frOf_get, frOf_getD, hq0, hq1, hq2, attrsB] <;> try omega
  cases hq3 : (inR a_med 0 1000000 : Bool)
  · simp -implicitDefEqProofs [c38, r38_0, r38_1, h0, h1, call75, callz75, e75, call76, callz76, e76, call78, callz78, e78, call79, callz79, e79, call80, callz80, e80, -List.getElem?_map, -getElem?_pos, -Int.pred_toNat, List.getElem?_cons_zero, map_get, -List.map_take, -List.map_drop, take_map, drop_map, upd_ne, frOf_set, frOf_get, frOf_getD, hq0, hq1, hq2, hq3, attrsB] <;> try omega
  cases hq4 : (inR a_pref 0 1000000 : Bool)
  · simp -implicitDefEqProofs [c38, r38_0, r38_1, h0, h1, call75, callz75, e75, call76, callz76, e76, call78, callz78, e78, call79, callz79, e79, call80, callz80, e80, -List.getElem?_map, -getElem?_pos, -Int.pred_toNat, List.getElem?_cons_zero, map_get, -List.map_take, -List.map_drop, take_map, drop_map, upd_ne, frOf_set, frOf_get, frOf_getD, hq0, hq1, hq2, hq3, hq4, attrsB] <;> try omega
  simp -implicitDefEqProofs [c38, r38_0, r38_1, h0, h1, call75, callz75, e75, call76, callz76, e76, call78, callz78, e78, call79, callz79, e79, call80, callz80, e80, -List.getElem?_map, -getElem?_pos, -Int.pred_toNat, List.getElem?_cons_zero, map_get, -List.map_take, -List.map_drop, take_map, drop_map, upd_ne, frOf_set, frOf_get, frOf_getD, hq0, hq1, hq2, hq3, hq4, attrsB] <;> try omega
-- impl.GoodRoute
@[simp] theorem call11 {m : Nat} (args : List AV) (S : St) : evCall T m (evFL T) 11 args S = lendC (evFL T 11) S (lendAll S i11.pes args) := evCall0 fn11 rfl rfl args S
@[simp] theorem callz11 (args : List AV) (S : St) : evCallFz T (evFL T) 11 args S = lendZ (evFL T 11) S i11.res (lendAll S i11.pes args) := evCallFz0 fn11 rfl rfl args S
@[simp] theorem pes11 : i11.pes = [[0, 0, 0, 1, 0, 0, 0, 1]] := rfl
@[simp] theorem body11 : i11.body = c11 := rfl
@[simp] theorem kind11 : i11.kind = 0 := rfl
@[simp] theorem tree11 : i11.tree = false := rfl
@[simp] theorem ntmps11 : i11.ntmps = 11 := rfl
@[simp] theorem results11 : i11.results = [(ResultVar.tmp 2)] := rfl
@[simp] theorem res11 : i11.res = [[0]] := rfl
theorem e11 (a_prefix__addr : Int) (a_prefix__len : Int) (a_attrs_origin : Int) (a_attrs_path : (List Int)) (a_attrs_next : Int) (a_attrs_med : Int) (a_attrs_pref : Int) (a_attrs_comms : (List Int)) (h0 : a_attrs_path.length ≤ 1048576) (h1 : a_attrs_comms.length ≤ 1048576) : evFL T 11 [.agg [.int .i64 a_prefix__addr, .int .i64 a_prefix__len, .int .i64 a_attrs_origin, .ts .imm 1 (a_attrs_path.map encInt), .int .i64 a_attrs_next, .int .i64 a_attrs_med, .int .i64 a_attrs_pref, .ts .imm 1 (a_attrs_comms.map encInt)]] [] = some (.bool (prefB (⟨⟨a_prefix__addr, a_prefix__len⟩, ⟨a_attrs_origin, a_attrs_path, a_attrs_next, a_attrs_med, a_attrs_pref, a_attrs_comms⟩⟩ : Route).prefix_ && attrsB (⟨⟨a_prefix__addr, a_prefix__len⟩, ⟨a_attrs_origin, a_attrs_path, a_attrs_next, a_attrs_med, a_attrs_pref, a_attrs_comms⟩⟩ : Route).attrs), []) := by
  rw [evFL_at fn11 (by simp)]
  cases hq0 : (prefB (⟨⟨a_prefix__addr, a_prefix__len⟩, ⟨a_attrs_origin, a_attrs_path, a_attrs_next, a_attrs_med, a_attrs_pref, a_attrs_comms⟩⟩ : Route).prefix_ : Bool)
  · simp -implicitDefEqProofs [c11, r11_0, r11_1, h0, h1, call37, callz37, e37, call38, callz38, e38, -List.getElem?_map, -getElem?_pos, -Int.pred_toNat, List.getElem?_cons_zero, map_get, -List.map_take, -List.map_drop, take_map, drop_map, upd_ne, frOf_set, frOf_get, frOf_getD, hq0] <;> try omega
  simp -implicitDefEqProofs [c11, r11_0, r11_1, h0, h1, call37, callz37, e37, call38, callz38, e38, -List.getElem?_map, -getElem?_pos, -Int.pred_toNat, List.getElem?_cons_zero, map_get, -List.map_take, -List.map_drop, take_map, drop_map, upd_ne, frOf_set, frOf_get, frOf_getD, hq0] <;> try omega
-- laws.eqPrefix
@[simp] theorem call39 {m : Nat} (args : List AV) (S : St) : evCall T m (evFL T) 39 args S = lendC (evFL T 39) S (lendAll S i39.pes args) := evCall0 fn39 rfl rfl args S
@[simp] theorem callz39 (args : List AV) (S : St) : evCallFz T (evFL T) 39 args S = lendZ (evFL T 39) S i39.res (lendAll S i39.pes args) := evCallFz0 fn39 rfl rfl args S
@[simp] theorem pes39 : i39.pes = [[0, 0], [0, 0]] := rfl
@[simp] theorem body39 : i39.body = c39 := rfl
@[simp] theorem kind39 : i39.kind = 0 := rfl
@[simp] theorem tree39 : i39.tree = false := rfl
@[simp] theorem ntmps39 : i39.ntmps = 15 := rfl
@[simp] theorem results39 : i39.results = [(ResultVar.tmp 4)] := rfl
@[simp] theorem res39 : i39.res = [[0]] := rfl
theorem e39 (a_addr : Int) (a_len : Int)  : evFL T 39 [.agg [.int .i64 a_addr, .int .i64 a_len], .agg [.int .i64 a_addr, .int .i64 a_len]] [] = some (.bool true, []) := by
  rw [evFL_at fn39 (by simp)]
  all_goals simp -implicitDefEqProofs [c39, r39_0, r39_1, r39_2, r39_3, r39_4, r39_5, -List.getElem?_map, -getElem?_pos, -Int.pred_toNat, List.getElem?_cons_zero, map_get, -List.map_take, -List.map_drop, take_map, drop_map, upd_ne, frOf_set, frOf_get, frOf_getD]
-- laws.eqIntS
@[simp] theorem call81 {m : Nat} (args : List AV) (S : St) : evCall T m (evFL T) 81 args S = lendC (evFL T 81) S (lendAll S i81.pes args) := evCall0 fn81 rfl rfl args S
@[simp] theorem callz81 (args : List AV) (S : St) : evCallFz T (evFL T) 81 args S = lendZ (evFL T 81) S i81.res (lendAll S i81.pes args) := evCallFz0 fn81 rfl rfl args S
@[simp] theorem pes81 : i81.pes = [[1], [1]] := rfl
@[simp] theorem body81 : i81.body = c81 := rfl
@[simp] theorem kind81 : i81.kind = 0 := rfl
@[simp] theorem tree81 : i81.tree = false := rfl
@[simp] theorem ntmps81 : i81.ntmps = 26 := rfl
@[simp] theorem results81 : i81.results = [(ResultVar.tmp 4)] := rfl
@[simp] theorem res81 : i81.res = [[0]] := rfl
def I81_0 (a : (List Int))  (i : Nat) (fr : Fr) (S : St) : Prop := ∃ f : Nat → AV, fr = frOf 26 f ∧ f 0 = .ts .imm 1 (a.map encInt) ∧ f 1 = .ts .imm 1 (a.map encInt) ∧ f 5 = .int .i64 i ∧ S = [] ∧ True
def R81_0 (a : (List Int))  (r : Option (Ex × Fr × St)) : Prop := (∃ f : Nat → AV, r = some (.exit 0, frOf 26 f, []) ∧ True)
theorem L81_0 (a : (List Int)) (ha0 : a.length ≤ 1048576)   : ∀ i fr S, i ≤ a.length → I81_0 a  i fr S → R81_0 a  (evCL T 0 (.loop l81_0) fr S) := by
  refine loopQ _ _ _ ?_ ?_
  · rintro i fr S hi ⟨f, rfl, t0, t1, t5, rfl, hf⟩
    have hwi : IntKind.i64.wrap ((i : Int) + 1) = (i : Int) + 1 := wrap64 (by omega) (by omega)
    all_goals simp -implicitDefEqProofs [r81_0, r81_1, r81_2, r81_3, r81_4, r81_5, r81_6, r81_7, r81_8, l81_0, ha0, -List.getElem?_map, -getElem?_pos, -Int.pred_toNat, List.getElem?_cons_zero, map_get, -List.map_take, -List.map_drop, take_map, drop_map, upd_ne, frOf_set, frOf_get, frOf_getD, encInt, t0, t1, t5, hi, hwi]
    all_goals first | (refine .go _ _ ⟨_, rfl, (by first | rfl | assumption | simp [upd, *]), (by first | rfl | assumption | simp [upd, *]), (by first | rfl | assumption | simp [upd, *]), rfl, ?_⟩; first | trivial | assumption | simp [*]) | (refine .exit _ _ _ ⟨_, rfl, ?_⟩; first | trivial | assumption | simp [*])
  · rintro fr S ⟨f, rfl, t0, t1, t5, rfl, hf⟩
    simp -implicitDefEqProofs [r81_0, r81_1, r81_2, r81_3, r81_4, r81_5, r81_6, r81_7, r81_8, l81_0, ha0, -List.getElem?_map, -getElem?_pos, -Int.pred_toNat, List.getElem?_cons_zero, map_get, -List.map_take, -List.map_drop, take_map, drop_map, upd_ne, frOf_set, frOf_get, frOf_getD, encInt, t0, t1, t5]
    refine .exit _ _ _ ⟨_, rfl, ?_⟩
    first | trivial | assumption | simp [*]
theorem e81 (a : (List Int)) (ha0 : a.length ≤ 1048576) : evFL T 81 [.ts .imm 1 (a.map encInt), .ts .imm 1 (a.map encInt)] [] = some (.bool true, []) := by
  rw [evFL_at fn81 (by simp)]
  simp -implicitDefEqProofs [c81, r81_0, r81_1, r81_2, r81_3, r81_4, r81_5, r81_6, r81_7, r81_8, ha0, -List.getElem?_map, -getElem?_pos, -Int.pred_toNat, List.getElem?_cons_zero, map_get, -List.map_take, -List.map_drop, take_map, drop_map, upd_ne, frOf_set, frOf_get, frOf_getD, encInt]
  generalize hr : evCL T 0 (.loop l81_0) _ _ = r
  have h : R81_0 a  r := by rw [← hr]; exact L81_0 a ha0  (0) _ _ (by omega) ⟨_, rfl, (by simp [upd, *]), (by simp [upd, *]), (by simp [upd, *]), rfl, by first | trivial | assumption | simp⟩
  clear hr
  obtain ⟨f0, rfl, hf0⟩ := h
  simp -implicitDefEqProofs [r81_0, r81_1, r81_2, r81_3, r81_4, r81_5, r81_6, r81_7, r81_8, ha0, -List.getElem?_map, -getElem?_pos, -Int.pred_toNat, List.getElem?_cons_zero, map_get, -List.map_take, -List.map_drop, take_map, drop_map, upd_ne, frOf_set, frOf_get, frOf_getD, encInt, hf0] <;> try omega
-- laws.eqAttrs
@[simp] theorem call40 {m : Nat} (args : List AV) (S : St) : evCall T m (evFL T) 40 args S = lendC (evFL T 40) S (lendAll S i40.pes args) := evCall0 fn40 rfl rfl args S
@[simp] theorem callz40 (args : List AV) (S : St) : evCallFz T (evFL T) 40 args S = lendZ (evFL T 40) S i40.res (lendAll S i40.pes args) := evCallFz0 fn40 rfl rfl args S
@[simp] theorem pes40 : i40.pes = [[0, 1, 0, 0, 0, 1], [0, 1, 0, 0, 0, 1]] := rfl
@[simp] theorem body40 : i40.body = c40 := rfl
@[simp] theorem kind40 : i40.kind = 0 := rfl
@[simp] theorem tree40 : i40.tree = false := rfl
@[simp] theorem ntmps40 : i40.ntmps = 37 := rfl
@[simp] theorem results40 : i40.results = [(ResultVar.tmp 4)] := rfl
@[simp] theorem res40 : i40.res = [[0]] := rfl
theorem e40 (a_origin : Int) (a_path : (List Int)) (a_next : Int) (a_med : Int) (a_pref : Int) (a_comms : (List Int)) (ha0 : a_path.length ≤ 1048576) (ha1 : a_comms.length ≤ 1048576) : evFL T 40 [.agg [.int .i64 a_origin, .ts .imm 1 (a_path.map encInt), .int .i64 a_next, .int .i64 a_med, .int .i64 a_pref, .ts .imm 1 (a_comms.map encInt)], .agg [.int .i64 a_origin, .ts .imm 1 (a_path.map encInt), .int .i64 a_next, .int .i64 a_med, .int .i64 a_pref, .ts .imm 1 (a_comms.map encInt)]] [] = some (.bool true, []) := by
  rw [evFL_at fn40 (by simp)]
  have ef0 := e81 a_path ha0
  have ef1 := e81 a_comms ha1
  all_goals simp -implicitDefEqProofs [c40, r40_0, r40_1, r40_2, r40_3, r40_4, r40_5, r40_6, r40_7, r40_8, r40_9, r40_10, r40_11, r40_12, r40_13, ha0, ha1, call81, callz81, e81, -List.getElem?_map, -getElem?_pos, -Int.pred_toNat, List.getElem?_cons_zero, map_get, -List.map_take, -List.map_drop, take_map, drop_map, upd_ne, frOf_set, frOf_get, frOf_getD, ef0, ef1]
-- laws.eqRoute
@[simp] theorem call12 {m : Nat} (args : List AV) (S : St) : evCall T m (evFL T) 12 args S = lendC (evFL T 12) S (lendAll S i12.pes args) := evCall0 fn12 rfl rfl args S
@[simp] theorem callz12 (args : List AV) (S : St) : evCallFz T (evFL T) 12 args S = lendZ (evFL T 12) S i12.res (lendAll S i12.pes args) := evCallFz0 fn12 rfl rfl args S
@[simp] theorem pes12 : i12.pes = [[0, 0, 0, 1, 0, 0, 0, 1], [0, 0, 0, 1, 0, 0, 0, 1]] := rfl
@[simp] theorem body12 : i12.body = c12 := rfl
@[simp] theorem kind12 : i12.kind = 0 := rfl
@[simp] theorem tree12 : i12.tree = false := rfl
@[simp] theorem ntmps12 : i12.ntmps = 17 := rfl
@[simp] theorem results12 : i12.results = [(ResultVar.tmp 4)] := rfl
@[simp] theorem res12 : i12.res = [[0]] := rfl
theorem e12 (a_prefix__addr : Int) (a_prefix__len : Int) (a_attrs_origin : Int) (a_attrs_path : (List Int)) (a_attrs_next : Int) (a_attrs_med : Int) (a_attrs_pref : Int) (a_attrs_comms : (List Int)) (ha0 : a_attrs_path.length ≤ 1048576) (ha1 : a_attrs_comms.length ≤ 1048576) : evFL T 12 [.agg [.int .i64 a_prefix__addr, .int .i64 a_prefix__len, .int .i64 a_attrs_origin, .ts .imm 1 (a_attrs_path.map encInt), .int .i64 a_attrs_next, .int .i64 a_attrs_med, .int .i64 a_attrs_pref, .ts .imm 1 (a_attrs_comms.map encInt)], .agg [.int .i64 a_prefix__addr, .int .i64 a_prefix__len, .int .i64 a_attrs_origin, .ts .imm 1 (a_attrs_path.map encInt), .int .i64 a_attrs_next, .int .i64 a_attrs_med, .int .i64 a_attrs_pref, .ts .imm 1 (a_attrs_comms.map encInt)]] [] = some (.bool true, []) := by
  rw [evFL_at fn12 (by simp)]
  have ef0 := e40 a_attrs_origin a_attrs_path a_attrs_next a_attrs_med a_attrs_pref a_attrs_comms ha0 ha1
  all_goals simp -implicitDefEqProofs [c12, r12_0, r12_1, r12_2, r12_3, r12_4, r12_5, ha0, ha1, call39, callz39, e39, call40, callz40, e40, -List.getElem?_map, -getElem?_pos, -Int.pred_toNat, List.getElem?_cons_zero, map_get, -List.map_take, -List.map_drop, take_map, drop_map, upd_ne, frOf_set, frOf_get, frOf_getD, ef0]
end Go.Pi.Ythidbgihjhkjaaa.GoodRoute
