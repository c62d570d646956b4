/- What functions of the program answer, and that the law answers true at every input; no condition -/
import Derived.Test.YtcihklkihglmjaaGoodSessionTabGoodSession
import Derived.Test.YtcihklkihglmjaaPiC
set_option linter.all false
/- Functions of the program, by equations. -/
namespace Go.Pi.Ytcihklkihglmjaa.GoodSession
open Go Go.Proofs Go.Pi 
set_option maxRecDepth 100000
set_option linter.unusedSimpArgs false
set_option linter.unusedVariables false
def encInt (x : Int) : List AV := [.int .i64 x]
@[simp] theorem own_encInt (x : Int) : ownOnlyL (encInt x) = true := by simp [encInt, ownOnlyL, ownOnly]
@[simp] theorem setQL_encInt (q : Ql) (x : Int) : setQL q (encInt x) = encInt x := rfl
structure Session where
  state : Int
  hold : Int
  left : Int
  quiet : Int
  ups : Int
  deriving Inhabited
@[simp] theorem Session.eta (x : Session) : (⟨x.state, x.hold, x.left, x.quiet, x.ups⟩ : Session) = x := rfl
def encSession (x : Session) : List AV := [.int .i64 x.state, .int .i64 x.hold, .int .i64 x.left, .int .i64 x.quiet, .int .i64 x.ups]
@[simp] theorem own_encSession (x : Session) : ownOnlyL (encSession x) = true := by simp [encSession, ownOnlyL, ownOnly]
@[simp] theorem setQL_encSession (q : Ql) (x : Session) : setQL q (encSession x) = encSession x := rfl
-- spec.l1In
@[simp] theorem call39 {m : Nat} (args : List AV) (S : St) : evCall T m (evFL T) 39 args S = lendC (evFL T 39) S (lendAll S i39.pes args) := evCall0 fn39 rfl rfl args S
@[simp] theorem callz39 (args : List AV) (S : St) : evCallFz T (evFL T) 39 args S = lendZ (evFL T 39) S i39.res (lendAll S i39.pes args) := evCallFz0 fn39 rfl rfl args S
@[simp] theorem pes39 : i39.pes = [[0], [0], [0]] := rfl
@[simp] theorem body39 : i39.body = c39 := rfl
@[simp] theorem kind39 : i39.kind = 0 := rfl
@[simp] theorem tree39 : i39.tree = false := rfl
@[simp] theorem ntmps39 : i39.ntmps = 15 := rfl
@[simp] theorem results39 : i39.results = [(ResultVar.tmp 6)] := rfl
@[simp] theorem res39 : i39.res = [[0]] := rfl
theorem e39 (a : Int) (b : Int) (c : Int)  : evFL T 39 [.int .i64 a, .int .i64 b, .int .i64 c] [] = some (.bool (inR a b c), []) := by
  rw [evFL_at fn39 (by simp)]
  by_cases hc0 : b ≤ a
  all_goals simp -implicitDefEqProofs [c39, r39_0, r39_1, -List.getElem?_map, -getElem?_pos, List.getElem?_cons_zero, map_get, -List.map_take, -List.map_drop, take_map, drop_map, upd_ne, frOf_set, frOf_get, frOf_getD, inR, hc0]
def sessionB (s : Session) : Bool := inR s.state 0 4 && inR s.hold 3 90 && inR s.ups 0 1000 && (if 2 ≤ s.state then inR s.left 1 90 else decide (s.left = 0)) && (if 3 ≤ s.state then inR s.quiet 1 30 else decide (s.quiet = 0))
-- spec.GoodSession
@[simp] theorem call14 {m : Nat} (args : List AV) (S : St) : evCall T m (evFL T) 14 args S = lendC (evFL T 14) S (lendAll S i14.pes args) := evCall0 fn14 rfl rfl args S
@[simp] theorem callz14 (args : List AV) (S : St) : evCallFz T (evFL T) 14 args S = lendZ (evFL T 14) S i14.res (lendAll S i14.pes args) := evCallFz0 fn14 rfl rfl args S
@[simp] theorem pes14 : i14.pes = [[0, 0, 0, 0, 0]] := rfl
@[simp] theorem body14 : i14.body = c14 := rfl
@[simp] theorem kind14 : i14.kind = 0 := rfl
@[simp] theorem tree14 : i14.tree = false := rfl
@[simp] theorem ntmps14 : i14.ntmps = 50 := rfl
@[simp] theorem results14 : i14.results = [(ResultVar.tmp 2)] := rfl
@[simp] theorem res14 : i14.res = [[0]] := rfl
theorem e14 (s_state : Int) (s_hold : Int) (s_left : Int) (s_quiet : Int) (s_ups : Int)  : evFL T 14 [.agg [.int .i64 s_state, .int .i64 s_hold, .int .i64 s_left, .int .i64 s_quiet, .int .i64 s_ups]] [] = some (.bool (sessionB (⟨s_state, s_hold, s_left, s_quiet, s_ups⟩ : Session)), []) := by
  rw [evFL_at fn14 (by simp)]
  by_cases ht1 : inR s_state 0 4 = true
  · by_cases ht2 : inR s_hold 3 90 = true
    · by_cases ht3 : inR s_ups 0 1000 = true
      · have hs : s_state = 0 ∨ s_state = 1 ∨ s_state = 2 ∨ s_state = 3 ∨ s_state = 4 := by simp [inR] at ht1; omega
        rcases hs with rfl | rfl | rfl | rfl | rfl
        · by_cases hl : s_left = 0
          · simp -implicitDefEqProofs [c14, r14_0, r14_1, r14_2, r14_3, r14_4, r14_5, r14_6, r14_7, r14_8, r14_9, call39, callz39, e39, -List.getElem?_map, -getElem?_pos, List.getElem?_cons_zero, map_get, -List.map_take, -List.map_drop, take_map, drop_map, upd_ne, frOf_set, frOf_get, frOf_getD, ht1, ht2, ht3, hl, sessionB]
          · simp -implicitDefEqProofs [c14, r14_0, r14_1, r14_2, r14_3, r14_4, r14_5, r14_6, r14_7, r14_8, r14_9, call39, callz39, e39, -List.getElem?_map, -getElem?_pos, List.getElem?_cons_zero, map_get, -List.map_take, -List.map_drop, take_map, drop_map, upd_ne, frOf_set, frOf_get, frOf_getD, ht1, ht2, ht3, hl, sessionB]
        · by_cases hl : s_left = 0
          · simp -implicitDefEqProofs [c14, r14_0, r14_1, r14_2, r14_3, r14_4, r14_5, r14_6, r14_7, r14_8, r14_9, call39, callz39, e39, -List.getElem?_map, -getElem?_pos, List.getElem?_cons_zero, map_get, -List.map_take, -List.map_drop, take_map, drop_map, upd_ne, frOf_set, frOf_get, frOf_getD, ht1, ht2, ht3, hl, sessionB]
          · simp -implicitDefEqProofs [c14, r14_0, r14_1, r14_2, r14_3, r14_4, r14_5, r14_6, r14_7, r14_8, r14_9, call39, callz39, e39, -List.getElem?_map, -getElem?_pos, List.getElem?_cons_zero, map_get, -List.map_take, -List.map_drop, take_map, drop_map, upd_ne, frOf_set, frOf_get, frOf_getD, ht1, ht2, ht3, hl, sessionB]
        · cases hl : inR s_left 1 90
          · simp -implicitDefEqProofs [c14, r14_0, r14_1, r14_2, r14_3, r14_4, r14_5, r14_6, r14_7, r14_8, r14_9, call39, callz39, e39, -List.getElem?_map, -getElem?_pos, List.getElem?_cons_zero, map_get, -List.map_take, -List.map_drop, take_map, drop_map, upd_ne, frOf_set, frOf_get, frOf_getD, ht1, ht2, ht3, hl, sessionB]
          · simp -implicitDefEqProofs [c14, r14_0, r14_1, r14_2, r14_3, r14_4, r14_5, r14_6, r14_7, r14_8, r14_9, call39, callz39, e39, -List.getElem?_map, -getElem?_pos, List.getElem?_cons_zero, map_get, -List.map_take, -List.map_drop, take_map, drop_map, upd_ne, frOf_set, frOf_get, frOf_getD, ht1, ht2, ht3, hl, sessionB]
        · cases hl : inR s_left 1 90
          · simp -implicitDefEqProofs [c14, r14_0, r14_1, r14_2, r14_3, r14_4, r14_5, r14_6, r14_7, r14_8, r14_9, call39, callz39, e39, -List.getElem?_map, -getElem?_pos, List.getElem?_cons_zero, map_get, -List.map_take, -List.map_drop, take_map, drop_map, upd_ne, frOf_set, frOf_get, frOf_getD, ht1, ht2, ht3, hl, sessionB]
          · simp -implicitDefEqProofs [c14, r14_0, r14_1, r14_2, r14_3, r14_4, r14_5, r14_6, r14_7, r14_8, r14_9, call39, callz39, e39, -List.getElem?_map, -getElem?_pos, List.getElem?_cons_zero, map_get, -List.map_take, -List.map_drop, take_map, drop_map, upd_ne, frOf_set, frOf_get, frOf_getD, ht1, ht2, ht3, hl, sessionB]
        · cases hl : inR s_left 1 90
          · simp -implicitDefEqProofs [c14, r14_0, r14_1, r14_2, r14_3, r14_4, r14_5, r14_6, r14_7, r14_8, r14_9, call39, callz39, e39, -List.getElem?_map, -getElem?_pos, List.getElem?_cons_zero, map_get, -List.map_take, -List.map_drop, take_map, drop_map, upd_ne, frOf_set, frOf_get, frOf_getD, ht1, ht2, ht3, hl, sessionB]
          · simp -implicitDefEqProofs [c14, r14_0, r14_1, r14_2, r14_3, r14_4, r14_5, r14_6, r14_7, r14_8, r14_9, call39, callz39, e39, -List.getElem?_map, -getElem?_pos, List.getElem?_cons_zero, map_get, -List.map_take, -List.map_drop, take_map, drop_map, upd_ne, frOf_set, frOf_get, frOf_getD, ht1, ht2, ht3, hl, sessionB]
      · simp -implicitDefEqProofs [c14, r14_0, r14_1, r14_2, r14_3, r14_4, r14_5, r14_6, r14_7, r14_8, r14_9, call39, callz39, e39, -List.getElem?_map, -getElem?_pos, List.getElem?_cons_zero, map_get, -List.map_take, -List.map_drop, take_map, drop_map, upd_ne, frOf_set, frOf_get, frOf_getD, sessionB, ht1, ht2, ht3]
    · simp -implicitDefEqProofs [c14, r14_0, r14_1, r14_2, r14_3, r14_4, r14_5, r14_6, r14_7, r14_8, r14_9, call39, callz39, e39, -List.getElem?_map, -getElem?_pos, List.getElem?_cons_zero, map_get, -List.map_take, -List.map_drop, take_map, drop_map, upd_ne, frOf_set, frOf_get, frOf_getD, sessionB, ht1, ht2]
  · simp -implicitDefEqProofs [c14, r14_0, r14_1, r14_2, r14_3, r14_4, r14_5, r14_6, r14_7, r14_8, r14_9, call39, callz39, e39, -List.getElem?_map, -getElem?_pos, List.getElem?_cons_zero, map_get, -List.map_take, -List.map_drop, take_map, drop_map, upd_ne, frOf_set, frOf_get, frOf_getD, sessionB, ht1]
-- laws.toSession
@[simp] theorem call15 {m : Nat} (args : List AV) (S : St) : evCall T m (evFL T) 15 args S = lendC (evFL T 15) S (lendAll S i15.pes args) := evCall0 fn15 rfl rfl args S
@[simp] theorem callz15 (args : List AV) (S : St) : evCallFz T (evFL T) 15 args S = lendZ (evFL T 15) S i15.res (lendAll S i15.pes args) := evCallFz0 fn15 rfl rfl args S
@[simp] theorem pes15 : i15.pes = [[0, 0, 0, 0, 0]] := rfl
@[simp] theorem body15 : i15.body = c15 := rfl
@[simp] theorem kind15 : i15.kind = 0 := rfl
@[simp] theorem tree15 : i15.tree = false := rfl
@[simp] theorem ntmps15 : i15.ntmps = 20 := rfl
@[simp] theorem results15 : i15.results = [(ResultVar.cell 2 23)] := rfl
@[simp] theorem res15 : i15.res = [[0, 0, 0, 0, 0]] := rfl
theorem e15 (a_state : Int) (a_hold : Int) (a_left : Int) (a_quiet : Int) (a_ups : Int)  : evFL T 15 [.agg [.int .i64 a_state, .int .i64 a_hold, .int .i64 a_left, .int .i64 a_quiet, .int .i64 a_ups]] [] = some (.agg [.int .i64 a_state, .int .i64 a_hold, .int .i64 a_left, .int .i64 a_quiet, .int .i64 a_ups], []) := by
  rw [evFL_at fn15 (by simp)]
  all_goals simp -implicitDefEqProofs [c15, r15_0, r15_1, r15_2, r15_3, r15_4, r15_5, r15_6, r15_7, -List.getElem?_map, -getElem?_pos, List.getElem?_cons_zero, map_get, -List.map_take, -List.map_drop, take_map, drop_map, upd_ne, frOf_set, frOf_get, frOf_getD]
-- impl.within
@[simp] theorem call40 {m : Nat} (args : List AV) (S : St) : evCall T m (evFL T) 40 args S = lendC (evFL T 40) S (lendAll S i40.pes args) := evCall0 fn40 rfl rfl args S
@[simp] theorem callz40 (args : List AV) (S : St) : evCallFz T (evFL T) 40 args S = lendZ (evFL T 40) S i40.res (lendAll S i40.pes args) := evCallFz0 fn40 rfl rfl args S
@[simp] theorem pes40 : i40.pes = [[0], [0], [0]] := rfl
@[simp] theorem body40 : i40.body = c40 := rfl
@[simp] theorem kind40 : i40.kind = 0 := rfl
@[simp] theorem tree40 : i40.tree = false := rfl
@[simp] theorem ntmps40 : i40.ntmps = 15 := rfl
@[simp] theorem results40 : i40.results = [(ResultVar.tmp 6)] := rfl
@[simp] theorem res40 : i40.res = [[0]] := rfl
theorem e40 (a : Int) (b : Int) (c : Int)  : evFL T 40 [.int .i64 a, .int .i64 b, .int .i64 c] [] = some (.bool (inR a b c), []) := by
  rw [evFL_at fn40 (by simp)]
  by_cases hc0 : b ≤ a
  all_goals simp -implicitDefEqProofs [c40, r40_0, r40_1, -List.getElem?_map, -getElem?_pos, List.getElem?_cons_zero, map_get, -List.map_take, -List.map_drop, take_map, drop_map, upd_ne, frOf_set, frOf_get, frOf_getD, inR, hc0]
-- impl.GoodSession
@[simp] theorem call16 {m : Nat} (args : List AV) (S : St) : evCall T m (evFL T) 16 args S = lendC (evFL T 16) S (lendAll S i16.pes args) := evCall0 fn16 rfl rfl args S
@[simp] theorem callz16 (args : List AV) (S : St) : evCallFz T (evFL T) 16 args S = lendZ (evFL T 16) S i16.res (lendAll S i16.pes args) := evCallFz0 fn16 rfl rfl args S
@[simp] theorem pes16 : i16.pes = [[0, 0, 0, 0, 0]] := rfl
@[simp] theorem body16 : i16.body = c16 := rfl
@[simp] theorem kind16 : i16.kind = 0 := rfl
@[simp] theorem tree16 : i16.tree = false := rfl
@[simp] theorem ntmps16 : i16.ntmps = 43 := rfl
@[simp] theorem results16 : i16.results = [(ResultVar.tmp 2)] := rfl
@[simp] theorem res16 : i16.res = [[0]] := rfl
theorem e16 (s_state : Int) (s_hold : Int) (s_left : Int) (s_quiet : Int) (s_ups : Int)  : evFL T 16 [.agg [.int .i64 s_state, .int .i64 s_hold, .int .i64 s_left, .int .i64 s_quiet, .int .i64 s_ups]] [] = some (.bool (sessionB (⟨s_state, s_hold, s_left, s_quiet, s_ups⟩ : Session)), []) := by
  rw [evFL_at fn16 (by simp)]
  by_cases ht1 : inR s_state 0 4 = true
  · by_cases ht2 : inR s_hold 3 90 = true
    · by_cases ht3 : inR s_ups 0 1000 = true
      · have hs : s_state = 0 ∨ s_state = 1 ∨ s_state = 2 ∨ s_state = 3 ∨ s_state = 4 := by simp [inR] at ht1; omega
        rcases hs with rfl | rfl | rfl | rfl | rfl
        · by_cases hl : s_left = 0
          · simp -implicitDefEqProofs [c16, r16_0, r16_1, r16_2, r16_3, r16_4, r16_5, r16_6, r16_7, r16_8, call40, callz40, e40, -List.getElem?_map, -getElem?_pos, List.getElem?_cons_zero, map_get, -List.map_take, -List.map_drop, take_map, drop_map, upd_ne, frOf_set, frOf_get, frOf_getD, ht1, ht2, ht3, hl, sessionB]
          · simp -implicitDefEqProofs [c16, r16_0, r16_1, r16_2, r16_3, r16_4, r16_5, r16_6, r16_7, r16_8, call40, callz40, e40, -List.getElem?_map, -getElem?_pos, List.getElem?_cons_zero, map_get, -List.map_take, -List.map_drop, take_map, drop_map, upd_ne, frOf_set, frOf_get, frOf_getD, ht1, ht2, ht3, hl, sessionB]
        · by_cases hl : s_left = 0
          · simp -implicitDefEqProofs [c16, r16_0, r16_1, r16_2, r16_3, r16_4, r16_5, r16_6, r16_7, r16_8, call40, callz40, e40, -List.getElem?_map, -getElem?_pos, List.getElem?_cons_zero, map_get, -List.map_take, -List.map_drop, take_map, drop_map, upd_ne, frOf_set, frOf_get, frOf_getD, ht1, ht2, ht3, hl, sessionB]
          · simp -implicitDefEqProofs [c16, r16_0, r16_1, r16_2, r16_3, r16_4, r16_5, r16_6, r16_7, r16_8, call40, callz40, e40, -List.getElem?_map, -getElem?_pos, List.getElem?_cons_zero, map_get, -List.map_take, -List.map_drop, take_map, drop_map, upd_ne, frOf_set, frOf_get, frOf_getD, ht1, ht2, ht3, hl, sessionB]
        · cases hl : inR s_left 1 90
          · simp -implicitDefEqProofs [c16, r16_0, r16_1, r16_2, r16_3, r16_4, r16_5, r16_6, r16_7, r16_8, call40, callz40, e40, -List.getElem?_map, -getElem?_pos, List.getElem?_cons_zero, map_get, -List.map_take, -List.map_drop, take_map, drop_map, upd_ne, frOf_set, frOf_get, frOf_getD, ht1, ht2, ht3, hl, sessionB]
          · simp -implicitDefEqProofs [c16, r16_0, r16_1, r16_2, r16_3, r16_4, r16_5, r16_6, r16_7, r16_8, call40, callz40, e40, -List.getElem?_map, -getElem?_pos, List.getElem?_cons_zero, map_get, -List.map_take, -List.map_drop, take_map, drop_map, upd_ne, frOf_set, frOf_get, frOf_getD, ht1, ht2, ht3, hl, sessionB]
        · cases hl : inR s_left 1 90
          · simp -implicitDefEqProofs [c16, r16_0, r16_1, r16_2, r16_3, r16_4, r16_5, r16_6, r16_7, r16_8, call40, callz40, e40, -List.getElem?_map, -getElem?_pos, List.getElem?_cons_zero, map_get, -List.map_take, -List.map_drop, take_map, drop_map, upd_ne, frOf_set, frOf_get, frOf_getD, ht1, ht2, ht3, hl, sessionB]
          · simp -implicitDefEqProofs [c16, r16_0, r16_1, r16_2, r16_3, r16_4, r16_5, r16_6, r16_7, r16_8, call40, callz40, e40, -List.getElem?_map, -getElem?_pos, List.getElem?_cons_zero, map_get, -List.map_take, -List.map_drop, take_map, drop_map, upd_ne, frOf_set, frOf_get, frOf_getD, ht1, ht2, ht3, hl, sessionB]
        · cases hl : inR s_left 1 90
          · simp -implicitDefEqProofs [c16, r16_0, r16_1, r16_2, r16_3, r16_4, r16_5, r16_6, r16_7, r16_8, call40, callz40, e40, -List.getElem?_map, -getElem?_pos, List.getElem?_cons_zero, map_get, -List.map_take, -List.map_drop, take_map, drop_map, upd_ne, frOf_set, frOf_get, frOf_getD, ht1, ht2, ht3, hl, sessionB]
          · simp -implicitDefEqProofs [c16, r16_0, r16_1, r16_2, r16_3, r16_4, r16_5, r16_6, r16_7, r16_8, call40, callz40, e40, -List.getElem?_map, -getElem?_pos, List.getElem?_cons_zero, map_get, -List.map_take, -List.map_drop, take_map, drop_map, upd_ne, frOf_set, frOf_get, frOf_getD, ht1, ht2, ht3, hl, sessionB]
      · simp -implicitDefEqProofs [c16, r16_0, r16_1, r16_2, r16_3, r16_4, r16_5, r16_6, r16_7, r16_8, call40, callz40, e40, -List.getElem?_map, -getElem?_pos, List.getElem?_cons_zero, map_get, -List.map_take, -List.map_drop, take_map, drop_map, upd_ne, frOf_set, frOf_get, frOf_getD, sessionB, ht1, ht2, ht3]
    · simp -implicitDefEqProofs [c16, r16_0, r16_1, r16_2, r16_3, r16_4, r16_5, r16_6, r16_7, r16_8, call40, callz40, e40, -List.getElem?_map, -getElem?_pos, List.getElem?_cons_zero, map_get, -List.map_take, -List.map_drop, take_map, drop_map, upd_ne, frOf_set, frOf_get, frOf_getD, sessionB, ht1, ht2]
  · simp -implicitDefEqProofs [c16, r16_0, r16_1, r16_2, r16_3, r16_4, r16_5, r16_6, r16_7, r16_8, call40, callz40, e40, -List.getElem?_map, -getElem?_pos, List.getElem?_cons_zero, map_get, -List.map_take, -List.map_drop, take_map, drop_map, upd_ne, frOf_set, frOf_get, frOf_getD, sessionB, ht1]
end Go.Pi.Ytcihklkihglmjaa.GoodSession
