/- What functions of the program answer, and that the law answers true at every input; no condition -/
import Derived.Test.YthidbgihjhkjaaaGoodPolicyFuaGoodPolicy
set_option linter.all false
/- Functions of the program: that the code answers as the plain functions do, the rest. -/
namespace Go.Pi.Ythidbgihjhkjaaa.GoodPolicy
open Go Go.Proofs Go.Pi
set_option maxRecDepth 100000
set_option linter.all false
-- f44 slices.ContainsFunc[[]impl.Term,impl.Term]
theorem call44 (args : List AV) (S : St) : evCall T (evFL T) 44 args S = lendC (evFL T 44) S (lendAll S [[5], [0]] args) := evCall0 fn44 rfl rfl args S
theorem callz44 (args : List AV) (S : St) : evCallFz T (evFL T) 44 args S = lendZ (evFL T 44) S [[0]] (lendAll S [[5], [0]] args) := evCallFz0 fn44 rfl rfl args S
attribute [go_sem] call44 callz44
theorem e44 (a0 : (List Term)) (a1 : (Term → Option Bool)) (a1_f : Nat) (a1_c : List AV) (a1_h : ((∀ S, mapO (lendPtr S) a1_c = some a1_c) ∧ (∀ n0 src R tm t c, tdL n0 src R tm t c a1_c = some a1_c)) ∧ ∀ y0 r, a1 y0 = some r → (∀ S, evCall T (evFL T) a1_f ([.agg [.ts .imm 4 (y0.ranges.map encRange), .ts .imm 2 (y0.path.map encReCell), .int .i64 y0.comm, .ts .imm 2 (y0.acts.map encAcn), .int .i64 y0.verdict]] ++ a1_c) S = some (.bool r, S)) ∧ (∀ S, evCallFz T (evFL T) a1_f ([.agg [.ts .imm 4 (y0.ranges.map encRange), .ts .imm 2 (y0.path.map encReCell), .int .i64 y0.comm, .ts .imm 2 (y0.acts.map encAcn), .int .i64 y0.verdict]] ++ a1_c) S = some (.bool r, S))) (r : Bool) (h : m44 a0 a1 = some r) : evFL T 44 [.ts .imm 5 (a0.map (encTerm .imm)), .fn a1_f a1_c] [] = some (.bool r, []) := by
  unfold m44 at h
  rw [evFL_at fn44 (Nat.le_of_ble_eq_true rfl) rfl (.inr rfl)]
  obtain ⟨r3, q1, h⟩ := bnd_some h
  have w2 := e83 a0 a1 a1_f a1_c a1_h r3 q1
  try simp -implicitDefEqProofs only [go_sem, Nat.reduceLT, Nat.reduceAdd, Nat.reduceSub, Nat.reduceMul, Nat.reduceEqDiff, Nat.reduceBEq, Nat.reduceLeDiff, Int.reduceToNat, Int.reduceLT, Int.reduceLE, Int.reduceEq, reduceCtorEq, ↓reduceIte] at w2
  cases h
  simp -implicitDefEqProofs only [go_sem, Nat.reduceLT, Nat.reduceAdd, Nat.reduceSub, Nat.reduceMul, Nat.reduceEqDiff, Nat.reduceBEq, Nat.reduceLeDiff, Int.reduceToNat, Int.reduceLT, Int.reduceLE, Int.reduceEq, reduceCtorEq, ↓reduceIte, i44, c44, a1_h.1, w2]
-- f75 impl.within
theorem call75 (args : List AV) (S : St) : evCall T (evFL T) 75 args S = lendC (evFL T 75) S (lendAll S [[0], [0], [0]] args) := evCall0 fn75 rfl rfl args S
theorem callz75 (args : List AV) (S : St) : evCallFz T (evFL T) 75 args S = lendZ (evFL T 75) S [[0]] (lendAll S [[0], [0], [0]] args) := evCallFz0 fn75 rfl rfl args S
attribute [go_sem] call75 callz75
noncomputable def X75_1 (a0 : Int) (a1 : Int) (a2 : Int) (o : Bool) : Ex × Fr × St :=
  (.normal, frOf 15 (upd anyF 6 (.bool o)), [])
theorem e75_1 (a0 : Int) (a1 : Int) (a2 : Int) (o : Bool) (h : m75_1 a0 a1 a2 = some o) : evCL T 0 k75_1 (frOf 15 (upd (upd (upd anyF 0 (.int .i64 a0)) 1 (.int .i64 a1)) 2 (.int .i64 a2))) [] = some (X75_1 a0 a1 a2 o) := by
  unfold m75_1 at h
  try simp -implicitDefEqProofs only [go_sem, Nat.reduceLT, Nat.reduceAdd, Nat.reduceSub, Nat.reduceMul, Nat.reduceEqDiff, Nat.reduceBEq, Nat.reduceLeDiff, Int.reduceToNat, Int.reduceLT, Int.reduceLE, Int.reduceEq, reduceCtorEq, ↓reduceIte, X75_1, k75_1]
  cases b1 : (leI a1 a0 : Bool)
  · replace h := br_f b1 h
    cases h
    simp -implicitDefEqProofs only [go_sem, Nat.reduceLT, Nat.reduceAdd, Nat.reduceSub, Nat.reduceMul, Nat.reduceEqDiff, Nat.reduceBEq, Nat.reduceLeDiff, Int.reduceToNat, Int.reduceLT, Int.reduceLE, Int.reduceEq, reduceCtorEq, ↓reduceIte, X75_1, k75_1, b1]
  · replace h := br_t b1 h
    cases h
    simp -implicitDefEqProofs only [go_sem, Nat.reduceLT, Nat.reduceAdd, Nat.reduceSub, Nat.reduceMul, Nat.reduceEqDiff, Nat.reduceBEq, Nat.reduceLeDiff, Int.reduceToNat, Int.reduceLT, Int.reduceLE, Int.reduceEq, reduceCtorEq, ↓reduceIte, X75_1, k75_1, b1]
theorem e75 (a0 : Int) (a1 : Int) (a2 : Int) (r : Bool) (h : m75 a0 a1 a2 = some r) : evFL T 75 [.int .i64 a0, .int .i64 a1, .int .i64 a2] [] = some (.bool r, []) := by
  unfold m75 at h
  rw [evFL_at fn75 (Nat.le_of_ble_eq_true rfl) rfl (.inr rfl)]
  obtain ⟨v4, q2, h⟩ := bnd_some h
  have w3 := e75_1 a0 a1 a2 v4 q2
  simp only [X75_1] at w3
  try simp -implicitDefEqProofs only [go_sem, Nat.reduceLT, Nat.reduceAdd, Nat.reduceSub, Nat.reduceMul, Nat.reduceEqDiff, Nat.reduceBEq, Nat.reduceLeDiff, Int.reduceToNat, Int.reduceLT, Int.reduceLE, Int.reduceEq, reduceCtorEq, ↓reduceIte] at w3
  cases h
  simp -implicitDefEqProofs only [go_sem, Nat.reduceLT, Nat.reduceAdd, Nat.reduceSub, Nat.reduceMul, Nat.reduceEqDiff, Nat.reduceBEq, Nat.reduceLeDiff, Int.reduceToNat, Int.reduceLT, Int.reduceLE, Int.reduceEq, reduceCtorEq, ↓reduceIte, i75, c75, w3]
-- f144 impl.partsOf
theorem call144 (args : List AV) (S : St) : evCall T (evFL T) 144 args S = lendC (evFL T 144) S (lendAll S [[0]] args) := evCall0 fn144 rfl rfl args S
theorem callz144 (args : List AV) (S : St) : evCallFz T (evFL T) 144 args S = lendZ (evFL T 144) S [[0]] (lendAll S [[0]] args) := evCallFz0 fn144 rfl rfl args S
attribute [go_sem] call144 callz144
noncomputable def X144_3 (a0 : Int) (p5 : Bool) (o : Bool) : Ex × Fr × St :=
  (.normal, frOf 14 (upd (upd anyF 3 (.int .i64 a0)) 4 (.bool o)), [])
theorem e144_3 (a0 : Int) (p5 : Bool) (o : Bool) (h : m144_3 a0 p5 = some o) : evCL T 0 k144_3 (frOf 14 (upd (upd anyF 3 (.int .i64 a0)) 4 (.bool p5))) [] = some (X144_3 a0 p5 o) := by
  unfold m144_3 at h
  try simp -implicitDefEqProofs only [go_sem, Nat.reduceLT, Nat.reduceAdd, Nat.reduceSub, Nat.reduceMul, Nat.reduceEqDiff, Nat.reduceBEq, Nat.reduceLeDiff, Int.reduceToNat, Int.reduceLT, Int.reduceLE, Int.reduceEq, reduceCtorEq, ↓reduceIte, X144_3, k144_3]
  cases b6 : (p5 : Bool)
  · replace h := br_f b6 h
    cases h
    simp -implicitDefEqProofs only [go_sem, Nat.reduceLT, Nat.reduceAdd, Nat.reduceSub, Nat.reduceMul, Nat.reduceEqDiff, Nat.reduceBEq, Nat.reduceLeDiff, Int.reduceToNat, Int.reduceLT, Int.reduceLE, Int.reduceEq, reduceCtorEq, ↓reduceIte, X144_3, k144_3, b6]
  · replace h := br_t b6 h
    cases h
    simp -implicitDefEqProofs only [go_sem, Nat.reduceLT, Nat.reduceAdd, Nat.reduceSub, Nat.reduceMul, Nat.reduceEqDiff, Nat.reduceBEq, Nat.reduceLeDiff, Int.reduceToNat, Int.reduceLT, Int.reduceLE, Int.reduceEq, reduceCtorEq, ↓reduceIte, X144_3, k144_3, b6]
noncomputable def X144_2 (a0 : Int) (p3 : Bool) (o : Bool) : Ex × Fr × St :=
  (.normal, frOf 14 (upd (upd anyF 3 (.int .i64 a0)) 4 (.bool o)), [])
theorem e144_2 (a0 : Int) (p3 : Bool) (o : Bool) (h : m144_2 a0 p3 = some o) : evCL T 0 k144_2 (frOf 14 (upd (upd anyF 3 (.int .i64 a0)) 4 (.bool p3))) [] = some (X144_2 a0 p3 o) := by
  unfold m144_2 at h
  try simp -implicitDefEqProofs only [go_sem, Nat.reduceLT, Nat.reduceAdd, Nat.reduceSub, Nat.reduceMul, Nat.reduceEqDiff, Nat.reduceBEq, Nat.reduceLeDiff, Int.reduceToNat, Int.reduceLT, Int.reduceLE, Int.reduceEq, reduceCtorEq, ↓reduceIte, X144_2, k144_2]
  cases b4 : (p3 : Bool)
  · replace h := br_f b4 h
    obtain ⟨v9, q7, h⟩ := bnd_some h
    have w8 := e144_3 a0 (eqI a0 3) v9 q7
    simp only [X144_3] at w8
    try simp -implicitDefEqProofs only [go_sem, Nat.reduceLT, Nat.reduceAdd, Nat.reduceSub, Nat.reduceMul, Nat.reduceEqDiff, Nat.reduceBEq, Nat.reduceLeDiff, Int.reduceToNat, Int.reduceLT, Int.reduceLE, Int.reduceEq, reduceCtorEq, ↓reduceIte] at w8
    cases h
    simp -implicitDefEqProofs only [go_sem, Nat.reduceLT, Nat.reduceAdd, Nat.reduceSub, Nat.reduceMul, Nat.reduceEqDiff, Nat.reduceBEq, Nat.reduceLeDiff, Int.reduceToNat, Int.reduceLT, Int.reduceLE, Int.reduceEq, reduceCtorEq, ↓reduceIte, X144_2, k144_2, b4, w8]
  · replace h := br_t b4 h
    cases h
    simp -implicitDefEqProofs only [go_sem, Nat.reduceLT, Nat.reduceAdd, Nat.reduceSub, Nat.reduceMul, Nat.reduceEqDiff, Nat.reduceBEq, Nat.reduceLeDiff, Int.reduceToNat, Int.reduceLT, Int.reduceLE, Int.reduceEq, reduceCtorEq, ↓reduceIte, X144_2, k144_2, b4]
noncomputable def X144_1 (a0 : Int) (p1 : Bool) (o : Bool) : Ex × Fr × St :=
  (.normal, frOf 14 (upd (upd anyF 3 (.int .i64 a0)) 4 (.bool o)), [])
theorem e144_1 (a0 : Int) (p1 : Bool) (o : Bool) (h : m144_1 a0 p1 = some o) : evCL T 0 k144_1 (frOf 14 (upd (upd anyF 3 (.int .i64 a0)) 4 (.bool p1))) [] = some (X144_1 a0 p1 o) := by
  unfold m144_1 at h
  try simp -implicitDefEqProofs only [go_sem, Nat.reduceLT, Nat.reduceAdd, Nat.reduceSub, Nat.reduceMul, Nat.reduceEqDiff, Nat.reduceBEq, Nat.reduceLeDiff, Int.reduceToNat, Int.reduceLT, Int.reduceLE, Int.reduceEq, reduceCtorEq, ↓reduceIte, X144_1, k144_1]
  cases b2 : (p1 : Bool)
  · replace h := br_f b2 h
    obtain ⟨v12, q10, h⟩ := bnd_some h
    have w11 := e144_2 a0 (eqI a0 2) v12 q10
    simp only [X144_2] at w11
    try simp -implicitDefEqProofs only [go_sem, Nat.reduceLT, Nat.reduceAdd, Nat.reduceSub, Nat.reduceMul, Nat.reduceEqDiff, Nat.reduceBEq, Nat.reduceLeDiff, Int.reduceToNat, Int.reduceLT, Int.reduceLE, Int.reduceEq, reduceCtorEq, ↓reduceIte] at w11
    cases h
    simp -implicitDefEqProofs only [go_sem, Nat.reduceLT, Nat.reduceAdd, Nat.reduceSub, Nat.reduceMul, Nat.reduceEqDiff, Nat.reduceBEq, Nat.reduceLeDiff, Int.reduceToNat, Int.reduceLT, Int.reduceLE, Int.reduceEq, reduceCtorEq, ↓reduceIte, X144_1, k144_1, b2, w11]
  · replace h := br_t b2 h
    cases h
    simp -implicitDefEqProofs only [go_sem, Nat.reduceLT, Nat.reduceAdd, Nat.reduceSub, Nat.reduceMul, Nat.reduceEqDiff, Nat.reduceBEq, Nat.reduceLeDiff, Int.reduceToNat, Int.reduceLT, Int.reduceLE, Int.reduceEq, reduceCtorEq, ↓reduceIte, X144_1, k144_1, b2]
noncomputable def X144_4 (a0 : Int) (p18 : Bool) (o : Bool) : Ex × Fr × St :=
  (.normal, frOf 14 (upd anyF 11 (.bool o)), [])
theorem e144_4 (a0 : Int) (p18 : Bool) (o : Bool) (h : m144_4 a0 p18 = some o) : evCL T 0 k144_4 (frOf 14 (upd (upd anyF 3 (.int .i64 a0)) 11 (.bool p18))) [] = some (X144_4 a0 p18 o) := by
  unfold m144_4 at h
  try simp -implicitDefEqProofs only [go_sem, Nat.reduceLT, Nat.reduceAdd, Nat.reduceSub, Nat.reduceMul, Nat.reduceEqDiff, Nat.reduceBEq, Nat.reduceLeDiff, Int.reduceToNat, Int.reduceLT, Int.reduceLE, Int.reduceEq, reduceCtorEq, ↓reduceIte, X144_4, k144_4]
  cases b19 : (p18 : Bool)
  · replace h := br_f b19 h
    cases h
    simp -implicitDefEqProofs only [go_sem, Nat.reduceLT, Nat.reduceAdd, Nat.reduceSub, Nat.reduceMul, Nat.reduceEqDiff, Nat.reduceBEq, Nat.reduceLeDiff, Int.reduceToNat, Int.reduceLT, Int.reduceLE, Int.reduceEq, reduceCtorEq, ↓reduceIte, X144_4, k144_4, b19]
  · replace h := br_t b19 h
    cases h
    simp -implicitDefEqProofs only [go_sem, Nat.reduceLT, Nat.reduceAdd, Nat.reduceSub, Nat.reduceMul, Nat.reduceEqDiff, Nat.reduceBEq, Nat.reduceLeDiff, Int.reduceToNat, Int.reduceLT, Int.reduceLE, Int.reduceEq, reduceCtorEq, ↓reduceIte, X144_4, k144_4, b19]
theorem e144 (a0 : Int) (r : Int) (h : m144 a0 = some r) : evFL T 144 [.int .i64 a0] [] = some (.int .i64 r, []) := by
  unfold m144 at h
  rw [evFL_at fn144 (Nat.le_of_ble_eq_true rfl) rfl (.inr rfl)]
  obtain ⟨v15, q13, h⟩ := bnd_some h
  have w14 := e144_1 a0 (eqI a0 1) v15 q13
  simp only [X144_1] at w14
  try simp -implicitDefEqProofs only [go_sem, Nat.reduceLT, Nat.reduceAdd, Nat.reduceSub, Nat.reduceMul, Nat.reduceEqDiff, Nat.reduceBEq, Nat.reduceLeDiff, Int.reduceToNat, Int.reduceLT, Int.reduceLE, Int.reduceEq, reduceCtorEq, ↓reduceIte] at w14
  try simp -implicitDefEqProofs only [go_sem, Nat.reduceLT, Nat.reduceAdd, Nat.reduceSub, Nat.reduceMul, Nat.reduceEqDiff, Nat.reduceBEq, Nat.reduceLeDiff, Int.reduceToNat, Int.reduceLT, Int.reduceLE, Int.reduceEq, reduceCtorEq, ↓reduceIte, i144, c144, w14]
  cases b16 : (v15 : Bool)
  · replace h := br_f b16 h
    try simp -implicitDefEqProofs only [go_sem, Nat.reduceLT, Nat.reduceAdd, Nat.reduceSub, Nat.reduceMul, Nat.reduceEqDiff, Nat.reduceBEq, Nat.reduceLeDiff, Int.reduceToNat, Int.reduceLT, Int.reduceLE, Int.reduceEq, reduceCtorEq, ↓reduceIte, i144, c144, w14, b16]
    cases b17 : (eqI a0 7 : Bool)
    · replace h := br_f b17 h
      obtain ⟨v22, q20, h⟩ := bnd_some h
      have w21 := e144_4 a0 (eqI a0 5) v22 q20
      simp only [X144_4] at w21
      try simp -implicitDefEqProofs only [go_sem, Nat.reduceLT, Nat.reduceAdd, Nat.reduceSub, Nat.reduceMul, Nat.reduceEqDiff, Nat.reduceBEq, Nat.reduceLeDiff, Int.reduceToNat, Int.reduceLT, Int.reduceLE, Int.reduceEq, reduceCtorEq, ↓reduceIte] at w21
      try simp -implicitDefEqProofs only [go_sem, Nat.reduceLT, Nat.reduceAdd, Nat.reduceSub, Nat.reduceMul, Nat.reduceEqDiff, Nat.reduceBEq, Nat.reduceLeDiff, Int.reduceToNat, Int.reduceLT, Int.reduceLE, Int.reduceEq, reduceCtorEq, ↓reduceIte, i144, c144, w14, b16, b17, w21]
      cases b23 : (v22 : Bool)
      · replace h := br_f b23 h
        cases h
        simp -implicitDefEqProofs only [go_sem, Nat.reduceLT, Nat.reduceAdd, Nat.reduceSub, Nat.reduceMul, Nat.reduceEqDiff, Nat.reduceBEq, Nat.reduceLeDiff, Int.reduceToNat, Int.reduceLT, Int.reduceLE, Int.reduceEq, reduceCtorEq, ↓reduceIte, i144, c144, w14, b16, b17, w21, b23]
      · replace h := br_t b23 h
        cases h
        simp -implicitDefEqProofs only [go_sem, Nat.reduceLT, Nat.reduceAdd, Nat.reduceSub, Nat.reduceMul, Nat.reduceEqDiff, Nat.reduceBEq, Nat.reduceLeDiff, Int.reduceToNat, Int.reduceLT, Int.reduceLE, Int.reduceEq, reduceCtorEq, ↓reduceIte, i144, c144, w14, b16, b17, w21, b23]
    · replace h := br_t b17 h
      cases h
      simp -implicitDefEqProofs only [go_sem, Nat.reduceLT, Nat.reduceAdd, Nat.reduceSub, Nat.reduceMul, Nat.reduceEqDiff, Nat.reduceBEq, Nat.reduceLeDiff, Int.reduceToNat, Int.reduceLT, Int.reduceLE, Int.reduceEq, reduceCtorEq, ↓reduceIte, i144, c144, w14, b16, b17]
  · replace h := br_t b16 h
    cases h
    simp -implicitDefEqProofs only [go_sem, Nat.reduceLT, Nat.reduceAdd, Nat.reduceSub, Nat.reduceMul, Nat.reduceEqDiff, Nat.reduceBEq, Nat.reduceLeDiff, Int.reduceToNat, Int.reduceLT, Int.reduceLE, Int.reduceEq, reduceCtorEq, ↓reduceIte, i144, c144, w14, b16]
-- f123 impl.sizeAt
theorem call123 (args : List AV) (S : St) : evCall T (evFL T) 123 args S = lendC (evFL T 123) S (lendAll S [[2], [0]] args) := evCall0 fn123 rfl rfl args S
theorem callz123 (args : List AV) (S : St) : evCallFz T (evFL T) 123 args S = lendZ (evFL T 123) S [[0]] (lendAll S [[2], [0]] args) := evCallFz0 fn123 rfl rfl args S
attribute [go_sem] call123 callz123
noncomputable def X123_1 (a0 : (List ReCell)) (a1 : Int) (o : (Unit ⊕ Int)) : Ex × Fr × St :=
  match o with
  | .inl o => (.exit 0, frOf 33 (anyF), [])
  | .inr o => (.ret, frOf 33 (upd anyF 4 (.int .i64 o)), [])
noncomputable def E123_1 (a0 : (List ReCell)) (a1 : Int) (s : (Int × Int)) : Fr × St := (frOf 33 (upd (upd (upd (upd anyF 0 (.ts .imm 2 (a0.map encReCell))) 1 (.int .i64 a1)) 5 (.int .i64 s.1)) 6 (.int .i64 s.2)), [])
theorem b123_1 (a0 : (List ReCell)) (a1 : Int) (s : (Int × Int)) (o : Ctl (Int × Int) (Unit ⊕ Int)) (h : m123_1b a0 a1 s = some o) : evCL T 0 k123_1b (E123_1 a0 a1 s).1 (E123_1 a0 a1 s).2 = some (ctlX (E123_1 a0 a1) (X123_1 a0 a1) o) := by
  unfold m123_1b at h
  obtain ⟨s12, s13⟩ := s
  replace h := sel2_some h
  try simp -implicitDefEqProofs only [go_sem, Nat.reduceLT, Nat.reduceAdd, Nat.reduceSub, Nat.reduceMul, Nat.reduceEqDiff, Nat.reduceBEq, Nat.reduceLeDiff, Int.reduceToNat, Int.reduceLT, Int.reduceLE, Int.reduceEq, reduceCtorEq, ↓reduceIte, E123_1, X123_1, k123_1b]
  cases b14 : (ltI s13 (↑a0.length : Int) : Bool)
  · replace h := br_f b14 h
    cases h
    simp -implicitDefEqProofs only [go_sem, Nat.reduceLT, Nat.reduceAdd, Nat.reduceSub, Nat.reduceMul, Nat.reduceEqDiff, Nat.reduceBEq, Nat.reduceLeDiff, Int.reduceToNat, Int.reduceLT, Int.reduceLE, Int.reduceEq, reduceCtorEq, ↓reduceIte, E123_1, X123_1, k123_1b, b14]
  · replace h := br_t b14 h
    obtain ⟨x15, q16, h⟩ := bnd_some h
    obtain ⟨g17, g18, g19⟩ := idx_row encReCell q16
    try simp -implicitDefEqProofs only [go_sem, Nat.reduceLT, Nat.reduceAdd, Nat.reduceSub, Nat.reduceMul, Nat.reduceEqDiff, Nat.reduceBEq, Nat.reduceLeDiff, Int.reduceToNat, Int.reduceLT, Int.reduceLE, Int.reduceEq, reduceCtorEq, ↓reduceIte] at g18
    try simp -implicitDefEqProofs only [go_sem, Nat.reduceLT, Nat.reduceAdd, Nat.reduceSub, Nat.reduceMul, Nat.reduceEqDiff, Nat.reduceBEq, Nat.reduceLeDiff, Int.reduceToNat, Int.reduceLT, Int.reduceLE, Int.reduceEq, reduceCtorEq, ↓reduceIte] at g19
    obtain ⟨r22, q20, h⟩ := bnd_some h
    have w21 := e144 x15.kind r22 q20
    try simp -implicitDefEqProofs only [go_sem, Nat.reduceLT, Nat.reduceAdd, Nat.reduceSub, Nat.reduceMul, Nat.reduceEqDiff, Nat.reduceBEq, Nat.reduceLeDiff, Int.reduceToNat, Int.reduceLT, Int.reduceLE, Int.reduceEq, reduceCtorEq, ↓reduceIte] at w21
    try simp -implicitDefEqProofs only [go_sem, Nat.reduceLT, Nat.reduceAdd, Nat.reduceSub, Nat.reduceMul, Nat.reduceEqDiff, Nat.reduceBEq, Nat.reduceLeDiff, Int.reduceToNat, Int.reduceLT, Int.reduceLE, Int.reduceEq, reduceCtorEq, ↓reduceIte, E123_1, X123_1, k123_1b, b14, g17, g18, g19, w21]
    cases b23 : (ltI r22 0 : Bool)
    · replace h := br_f b23 h
      try simp -implicitDefEqProofs only [go_sem, Nat.reduceLT, Nat.reduceAdd, Nat.reduceSub, Nat.reduceMul, Nat.reduceEqDiff, Nat.reduceBEq, Nat.reduceLeDiff, Int.reduceToNat, Int.reduceLT, Int.reduceLE, Int.reduceEq, reduceCtorEq, ↓reduceIte, E123_1, X123_1, k123_1b, b14, g17, g18, g19, w21, b23]
      cases b24 : (eqI (wadd .i64 s12 (wsub .i64 r22 1)) 0 : Bool)
      · replace h := br_f b24 h
        cases h
        simp -implicitDefEqProofs only [go_sem, Nat.reduceLT, Nat.reduceAdd, Nat.reduceSub, Nat.reduceMul, Nat.reduceEqDiff, Nat.reduceBEq, Nat.reduceLeDiff, Int.reduceToNat, Int.reduceLT, Int.reduceLE, Int.reduceEq, reduceCtorEq, ↓reduceIte, E123_1, X123_1, k123_1b, b14, g17, g18, g19, w21, b23, b24]
      · replace h := br_t b24 h
        cases h
        simp -implicitDefEqProofs only [go_sem, Nat.reduceLT, Nat.reduceAdd, Nat.reduceSub, Nat.reduceMul, Nat.reduceEqDiff, Nat.reduceBEq, Nat.reduceLeDiff, Int.reduceToNat, Int.reduceLT, Int.reduceLE, Int.reduceEq, reduceCtorEq, ↓reduceIte, E123_1, X123_1, k123_1b, b14, g17, g18, g19, w21, b23, b24]
    · replace h := br_t b23 h
      cases h
      simp -implicitDefEqProofs only [go_sem, Nat.reduceLT, Nat.reduceAdd, Nat.reduceSub, Nat.reduceMul, Nat.reduceEqDiff, Nat.reduceBEq, Nat.reduceLeDiff, Int.reduceToNat, Int.reduceLT, Int.reduceLE, Int.reduceEq, reduceCtorEq, ↓reduceIte, E123_1, X123_1, k123_1b, b14, g17, g18, g19, w21, b23]
theorem e123_1 (a0 : (List ReCell)) (a1 : Int) (s : (Int × Int)) (o : (Unit ⊕ Int)) (h : loopP (m123_1b a0 a1) s = some o) : evCL T 0 (.loop k123_1b) (E123_1 a0 a1 s).1 (E123_1 a0 a1 s).2 = some (X123_1 a0 a1 o) :=
  loop_walk (E := E123_1 a0 a1) (X := X123_1 a0 a1) (by intro b; rcases b with b | b <;> (simp only [X123_1]; nofun)) (b123_1 a0 a1) s o h
theorem e123 (a0 : (List ReCell)) (a1 : Int) (r : Int) (h : m123 a0 a1 = some r) : evFL T 123 [.ts .imm 2 (a0.map encReCell), .int .i64 a1] [] = some (.int .i64 r, []) := by
  unfold m123 at h
  rw [evFL_at fn123 (Nat.le_of_ble_eq_true rfl) rfl (.inr rfl)]
  try simp -implicitDefEqProofs only [go_sem, Nat.reduceLT, Nat.reduceAdd, Nat.reduceSub, Nat.reduceMul, Nat.reduceEqDiff, Nat.reduceBEq, Nat.reduceLeDiff, Int.reduceToNat, Int.reduceLT, Int.reduceLE, Int.reduceEq, reduceCtorEq, ↓reduceIte, i123, c123]
  obtain ⟨o, q25, h⟩ := bnd_some h
  rcases o with ⟨⟩ | v27
  · replace h := selS_l h
    have w26 := e123_1 a0 a1 (1, a1) (.inl ()) q25
    simp only [E123_1, X123_1] at w26
    try simp -implicitDefEqProofs only [go_sem, Nat.reduceLT, Nat.reduceAdd, Nat.reduceSub, Nat.reduceMul, Nat.reduceEqDiff, Nat.reduceBEq, Nat.reduceLeDiff, Int.reduceToNat, Int.reduceLT, Int.reduceLE, Int.reduceEq, reduceCtorEq, ↓reduceIte] at w26
    cases h
    simp -implicitDefEqProofs only [go_sem, Nat.reduceLT, Nat.reduceAdd, Nat.reduceSub, Nat.reduceMul, Nat.reduceEqDiff, Nat.reduceBEq, Nat.reduceLeDiff, Int.reduceToNat, Int.reduceLT, Int.reduceLE, Int.reduceEq, reduceCtorEq, ↓reduceIte, i123, c123, w26]
  · replace h := selS_r h
    have w26 := e123_1 a0 a1 (1, a1) (.inr v27) q25
    simp only [E123_1, X123_1] at w26
    try simp -implicitDefEqProofs only [go_sem, Nat.reduceLT, Nat.reduceAdd, Nat.reduceSub, Nat.reduceMul, Nat.reduceEqDiff, Nat.reduceBEq, Nat.reduceLeDiff, Int.reduceToNat, Int.reduceLT, Int.reduceLE, Int.reduceEq, reduceCtorEq, ↓reduceIte] at w26
    cases h
    simp -implicitDefEqProofs only [go_sem, Nat.reduceLT, Nat.reduceAdd, Nat.reduceSub, Nat.reduceMul, Nat.reduceEqDiff, Nat.reduceBEq, Nat.reduceLeDiff, Int.reduceToNat, Int.reduceLT, Int.reduceLE, Int.reduceEq, reduceCtorEq, ↓reduceIte, i123, c123, w26]
-- f145 slices.IndexFunc[[]impl.ReCell,impl.ReCell]
theorem call145 (args : List AV) (S : St) : evCall T (evFL T) 145 args S = lendC (evFL T 145) S (lendAll S [[2], [0]] args) := evCall0 fn145 rfl rfl args S
theorem callz145 (args : List AV) (S : St) : evCallFz T (evFL T) 145 args S = lendZ (evFL T 145) S [[0]] (lendAll S [[2], [0]] args) := evCallFz0 fn145 rfl rfl args S
attribute [go_sem] call145 callz145
noncomputable def X145_1 (a1_f : Nat) (a1_c : List AV) (a0 : (List ReCell)) (p1 : Int) (a1 : (ReCell → Option Bool)) (o : (Unit ⊕ Int)) : Ex × Fr × St :=
  match o with
  | .inl o => (.exit 0, frOf 19 (anyF), [])
  | .inr o => (.ret, frOf 19 (upd anyF 4 (.int .i64 o)), [])
noncomputable def E145_1 (a1_f : Nat) (a1_c : List AV) (a0 : (List ReCell)) (p1 : Int) (a1 : (ReCell → Option Bool)) (s : Int) : Fr × St := (frOf 19 (upd (upd (upd (upd anyF 0 (.ts .imm 2 (a0.map encReCell))) 1 (.fn a1_f a1_c)) 7 (.int .i64 p1)) 8 (.int .i64 s)), [])
theorem b145_1 (a0 : (List ReCell)) (p1 : Int) (a1 : (ReCell → Option Bool)) (a1_f : Nat) (a1_c : List AV) (a1_h : ((∀ S, mapO (lendPtr S) a1_c = some a1_c) ∧ (∀ n0 src R tm t c, tdL n0 src R tm t c a1_c = some a1_c)) ∧ ∀ y0 r, a1 y0 = some r → (∀ S, evCall T (evFL T) a1_f ([.agg [.int .i64 y0.kind, .int .i64 y0.n]] ++ a1_c) S = some (.bool r, S)) ∧ (∀ S, evCallFz T (evFL T) a1_f ([.agg [.int .i64 y0.kind, .int .i64 y0.n]] ++ a1_c) S = some (.bool r, S))) (s : Int) (o : Ctl Int (Unit ⊕ Int)) (h : m145_1b a0 p1 a1 s = some o) : evCL T 0 k145_1b (E145_1 a1_f a1_c a0 p1 a1 s).1 (E145_1 a1_f a1_c a0 p1 a1 s).2 = some (ctlX (E145_1 a1_f a1_c a0 p1 a1) (X145_1 a1_f a1_c a0 p1 a1) o) := by
  unfold m145_1b at h
  revert h
  generalize s = s12
  intro h
  try simp -implicitDefEqProofs only [go_sem, Nat.reduceLT, Nat.reduceAdd, Nat.reduceSub, Nat.reduceMul, Nat.reduceEqDiff, Nat.reduceBEq, Nat.reduceLeDiff, Int.reduceToNat, Int.reduceLT, Int.reduceLE, Int.reduceEq, reduceCtorEq, ↓reduceIte, E145_1, X145_1, k145_1b, a1_h.1]
  cases b13 : (ltI s12 p1 : Bool)
  · replace h := br_f b13 h
    cases h
    simp -implicitDefEqProofs only [go_sem, Nat.reduceLT, Nat.reduceAdd, Nat.reduceSub, Nat.reduceMul, Nat.reduceEqDiff, Nat.reduceBEq, Nat.reduceLeDiff, Int.reduceToNat, Int.reduceLT, Int.reduceLE, Int.reduceEq, reduceCtorEq, ↓reduceIte, E145_1, X145_1, k145_1b, a1_h.1, b13]
  · replace h := br_t b13 h
    obtain ⟨x14, q15, h⟩ := bnd_some h
    obtain ⟨g16, g17, g18⟩ := idx_row encReCell q15
    try simp -implicitDefEqProofs only [go_sem, Nat.reduceLT, Nat.reduceAdd, Nat.reduceSub, Nat.reduceMul, Nat.reduceEqDiff, Nat.reduceBEq, Nat.reduceLeDiff, Int.reduceToNat, Int.reduceLT, Int.reduceLE, Int.reduceEq, reduceCtorEq, ↓reduceIte] at g17
    try simp -implicitDefEqProofs only [go_sem, Nat.reduceLT, Nat.reduceAdd, Nat.reduceSub, Nat.reduceMul, Nat.reduceEqDiff, Nat.reduceBEq, Nat.reduceLeDiff, Int.reduceToNat, Int.reduceLT, Int.reduceLE, Int.reduceEq, reduceCtorEq, ↓reduceIte] at g18
    obtain ⟨r19, q20, h⟩ := bnd_some h
    have w21 := a1_h.2 x14 r19 q20
    try simp -implicitDefEqProofs only [go_sem, Nat.reduceLT, Nat.reduceAdd, Nat.reduceSub, Nat.reduceMul, Nat.reduceEqDiff, Nat.reduceBEq, Nat.reduceLeDiff, Int.reduceToNat, Int.reduceLT, Int.reduceLE, Int.reduceEq, reduceCtorEq, ↓reduceIte] at w21
    try simp -implicitDefEqProofs only [go_sem, Nat.reduceLT, Nat.reduceAdd, Nat.reduceSub, Nat.reduceMul, Nat.reduceEqDiff, Nat.reduceBEq, Nat.reduceLeDiff, Int.reduceToNat, Int.reduceLT, Int.reduceLE, Int.reduceEq, reduceCtorEq, ↓reduceIte, E145_1, X145_1, k145_1b, a1_h.1, b13, g16, g17, g18, w21.1, w21.2]
    cases b22 : (r19 : Bool)
    · replace h := br_f b22 h
      cases h
      simp -implicitDefEqProofs only [go_sem, Nat.reduceLT, Nat.reduceAdd, Nat.reduceSub, Nat.reduceMul, Nat.reduceEqDiff, Nat.reduceBEq, Nat.reduceLeDiff, Int.reduceToNat, Int.reduceLT, Int.reduceLE, Int.reduceEq, reduceCtorEq, ↓reduceIte, E145_1, X145_1, k145_1b, a1_h.1, b13, g16, g17, g18, w21.1, w21.2, b22]
    · replace h := br_t b22 h
      cases h
      simp -implicitDefEqProofs only [go_sem, Nat.reduceLT, Nat.reduceAdd, Nat.reduceSub, Nat.reduceMul, Nat.reduceEqDiff, Nat.reduceBEq, Nat.reduceLeDiff, Int.reduceToNat, Int.reduceLT, Int.reduceLE, Int.reduceEq, reduceCtorEq, ↓reduceIte, E145_1, X145_1, k145_1b, a1_h.1, b13, g16, g17, g18, w21.1, w21.2, b22]
theorem e145_1 (a0 : (List ReCell)) (p1 : Int) (a1 : (ReCell → Option Bool)) (a1_f : Nat) (a1_c : List AV) (a1_h : ((∀ S, mapO (lendPtr S) a1_c = some a1_c) ∧ (∀ n0 src R tm t c, tdL n0 src R tm t c a1_c = some a1_c)) ∧ ∀ y0 r, a1 y0 = some r → (∀ S, evCall T (evFL T) a1_f ([.agg [.int .i64 y0.kind, .int .i64 y0.n]] ++ a1_c) S = some (.bool r, S)) ∧ (∀ S, evCallFz T (evFL T) a1_f ([.agg [.int .i64 y0.kind, .int .i64 y0.n]] ++ a1_c) S = some (.bool r, S))) (s : Int) (o : (Unit ⊕ Int)) (h : loopP (m145_1b a0 p1 a1) s = some o) : evCL T 0 (.loop k145_1b) (E145_1 a1_f a1_c a0 p1 a1 s).1 (E145_1 a1_f a1_c a0 p1 a1 s).2 = some (X145_1 a1_f a1_c a0 p1 a1 o) :=
  loop_walk (E := E145_1 a1_f a1_c a0 p1 a1) (X := X145_1 a1_f a1_c a0 p1 a1) (by intro b; rcases b with b | b <;> (simp only [X145_1]; nofun)) (b145_1 a0 p1 a1 a1_f a1_c a1_h) s o h
theorem e145 (a0 : (List ReCell)) (a1 : (ReCell → Option Bool)) (a1_f : Nat) (a1_c : List AV) (a1_h : ((∀ S, mapO (lendPtr S) a1_c = some a1_c) ∧ (∀ n0 src R tm t c, tdL n0 src R tm t c a1_c = some a1_c)) ∧ ∀ y0 r, a1 y0 = some r → (∀ S, evCall T (evFL T) a1_f ([.agg [.int .i64 y0.kind, .int .i64 y0.n]] ++ a1_c) S = some (.bool r, S)) ∧ (∀ S, evCallFz T (evFL T) a1_f ([.agg [.int .i64 y0.kind, .int .i64 y0.n]] ++ a1_c) S = some (.bool r, S))) (r : Int) (h : m145 a0 a1 = some r) : evFL T 145 [.ts .imm 2 (a0.map encReCell), .fn a1_f a1_c] [] = some (.int .i64 r, []) := by
  unfold m145 at h
  rw [evFL_at fn145 (Nat.le_of_ble_eq_true rfl) rfl (.inr rfl)]
  try simp -implicitDefEqProofs only [go_sem, Nat.reduceLT, Nat.reduceAdd, Nat.reduceSub, Nat.reduceMul, Nat.reduceEqDiff, Nat.reduceBEq, Nat.reduceLeDiff, Int.reduceToNat, Int.reduceLT, Int.reduceLE, Int.reduceEq, reduceCtorEq, ↓reduceIte, i145, c145, a1_h.1]
  obtain ⟨o, q23, h⟩ := bnd_some h
  rcases o with ⟨⟩ | v25
  · replace h := selS_l h
    have w24 := e145_1 a0 (↑a0.length : Int) a1 a1_f a1_c a1_h 0 (.inl ()) q23
    simp only [E145_1, X145_1] at w24
    try simp -implicitDefEqProofs only [go_sem, Nat.reduceLT, Nat.reduceAdd, Nat.reduceSub, Nat.reduceMul, Nat.reduceEqDiff, Nat.reduceBEq, Nat.reduceLeDiff, Int.reduceToNat, Int.reduceLT, Int.reduceLE, Int.reduceEq, reduceCtorEq, ↓reduceIte] at w24
    cases h
    simp -implicitDefEqProofs only [go_sem, Nat.reduceLT, Nat.reduceAdd, Nat.reduceSub, Nat.reduceMul, Nat.reduceEqDiff, Nat.reduceBEq, Nat.reduceLeDiff, Int.reduceToNat, Int.reduceLT, Int.reduceLE, Int.reduceEq, reduceCtorEq, ↓reduceIte, i145, c145, a1_h.1, w24]
  · replace h := selS_r h
    have w24 := e145_1 a0 (↑a0.length : Int) a1 a1_f a1_c a1_h 0 (.inr v25) q23
    simp only [E145_1, X145_1] at w24
    try simp -implicitDefEqProofs only [go_sem, Nat.reduceLT, Nat.reduceAdd, Nat.reduceSub, Nat.reduceMul, Nat.reduceEqDiff, Nat.reduceBEq, Nat.reduceLeDiff, Int.reduceToNat, Int.reduceLT, Int.reduceLE, Int.reduceEq, reduceCtorEq, ↓reduceIte] at w24
    cases h
    simp -implicitDefEqProofs only [go_sem, Nat.reduceLT, Nat.reduceAdd, Nat.reduceSub, Nat.reduceMul, Nat.reduceEqDiff, Nat.reduceBEq, Nat.reduceLeDiff, Int.reduceToNat, Int.reduceLT, Int.reduceLE, Int.reduceEq, reduceCtorEq, ↓reduceIte, i145, c145, a1_h.1, w24]
-- f124 slices.ContainsFunc[[]impl.ReCell,impl.ReCell]
theorem call124 (args : List AV) (S : St) : evCall T (evFL T) 124 args S = lendC (evFL T 124) S (lendAll S [[2], [0]] args) := evCall0 fn124 rfl rfl args S
theorem callz124 (args : List AV) (S : St) : evCallFz T (evFL T) 124 args S = lendZ (evFL T 124) S [[0]] (lendAll S [[2], [0]] args) := evCallFz0 fn124 rfl rfl args S
attribute [go_sem] call124 callz124
theorem e124 (a0 : (List ReCell)) (a1 : (ReCell → Option Bool)) (a1_f : Nat) (a1_c : List AV) (a1_h : ((∀ S, mapO (lendPtr S) a1_c = some a1_c) ∧ (∀ n0 src R tm t c, tdL n0 src R tm t c a1_c = some a1_c)) ∧ ∀ y0 r, a1 y0 = some r → (∀ S, evCall T (evFL T) a1_f ([.agg [.int .i64 y0.kind, .int .i64 y0.n]] ++ a1_c) S = some (.bool r, S)) ∧ (∀ S, evCallFz T (evFL T) a1_f ([.agg [.int .i64 y0.kind, .int .i64 y0.n]] ++ a1_c) S = some (.bool r, S))) (r : Bool) (h : m124 a0 a1 = some r) : evFL T 124 [.ts .imm 2 (a0.map encReCell), .fn a1_f a1_c] [] = some (.bool r, []) := by
  unfold m124 at h
  rw [evFL_at fn124 (Nat.le_of_ble_eq_true rfl) rfl (.inr rfl)]
  obtain ⟨r3, q1, h⟩ := bnd_some h
  have w2 := e145 a0 a1 a1_f a1_c a1_h r3 q1
  try simp -implicitDefEqProofs only [go_sem, Nat.reduceLT, Nat.reduceAdd, Nat.reduceSub, Nat.reduceMul, Nat.reduceEqDiff, Nat.reduceBEq, Nat.reduceLeDiff, Int.reduceToNat, Int.reduceLT, Int.reduceLE, Int.reduceEq, reduceCtorEq, ↓reduceIte] at w2
  cases h
  simp -implicitDefEqProofs only [go_sem, Nat.reduceLT, Nat.reduceAdd, Nat.reduceSub, Nat.reduceMul, Nat.reduceEqDiff, Nat.reduceBEq, Nat.reduceLeDiff, Int.reduceToNat, Int.reduceLT, Int.reduceLE, Int.reduceEq, reduceCtorEq, ↓reduceIte, i124, c124, a1_h.1, w2]
-- f91 impl.isAsn
theorem call91 (args : List AV) (S : St) : evCall T (evFL T) 91 args S = lendC (evFL T 91) S (lendAll S [[0]] args) := evCall0 fn91 rfl rfl args S
theorem callz91 (args : List AV) (S : St) : evCallFz T (evFL T) 91 args S = lendZ (evFL T 91) S [[0]] (lendAll S [[0]] args) := evCallFz0 fn91 rfl rfl args S
attribute [go_sem] call91 callz91
theorem e91 (a0 : Int) (r : Bool) (h : m91 a0 = some r) : evFL T 91 [.int .i64 a0] [] = some (.bool r, []) := by
  unfold m91 at h
  rw [evFL_at fn91 (Nat.le_of_ble_eq_true rfl) rfl (.inr rfl)]
  obtain ⟨r3, q1, h⟩ := bnd_some h
  have w2 := e75 a0 1 65535 r3 q1
  try simp -implicitDefEqProofs only [go_sem, Nat.reduceLT, Nat.reduceAdd, Nat.reduceSub, Nat.reduceMul, Nat.reduceEqDiff, Nat.reduceBEq, Nat.reduceLeDiff, Int.reduceToNat, Int.reduceLT, Int.reduceLE, Int.reduceEq, reduceCtorEq, ↓reduceIte] at w2
  cases h
  simp -implicitDefEqProofs only [go_sem, Nat.reduceLT, Nat.reduceAdd, Nat.reduceSub, Nat.reduceMul, Nat.reduceEqDiff, Nat.reduceBEq, Nat.reduceLeDiff, Int.reduceToNat, Int.reduceLT, Int.reduceLE, Int.reduceEq, reduceCtorEq, ↓reduceIte, i91, c91, w2]
-- f125 impl.GoodRegex$1
theorem call125 (args : List AV) (S : St) : evCall T (evFL T) 125 args S = lendC (evFL T 125) S (lendAll S [[0, 0]] args) := evCall0 fn125 rfl rfl args S
theorem callz125 (args : List AV) (S : St) : evCallFz T (evFL T) 125 args S = lendZ (evFL T 125) S [[0]] (lendAll S [[0, 0]] args) := evCallFz0 fn125 rfl rfl args S
attribute [go_sem] call125 callz125
noncomputable def X125_1 (a0 : ReCell) (o : Bool) : Ex × Fr × St :=
  (.normal, frOf 22 (upd anyF 2 (.bool o)), [])
theorem e125_1 (a0 : ReCell) (o : Bool) (h : m125_1 a0 = some o) : evCL T 0 k125_1 (frOf 22 (upd anyF 1 (.ptr 0 0 0))) [some ⟨.box, 2, [[.int .i64 a0.kind, .int .i64 a0.n]]⟩] = some (X125_1 a0 o) := by
  unfold m125_1 at h
  try simp -implicitDefEqProofs only [go_sem, Nat.reduceLT, Nat.reduceAdd, Nat.reduceSub, Nat.reduceMul, Nat.reduceEqDiff, Nat.reduceBEq, Nat.reduceLeDiff, Int.reduceToNat, Int.reduceLT, Int.reduceLE, Int.reduceEq, reduceCtorEq, ↓reduceIte, X125_1, k125_1]
  cases b1 : (eqI a0.kind 3 : Bool)
  · replace h := br_f b1 h
    cases h
    simp -implicitDefEqProofs only [go_sem, Nat.reduceLT, Nat.reduceAdd, Nat.reduceSub, Nat.reduceMul, Nat.reduceEqDiff, Nat.reduceBEq, Nat.reduceLeDiff, Int.reduceToNat, Int.reduceLT, Int.reduceLE, Int.reduceEq, reduceCtorEq, ↓reduceIte, X125_1, k125_1, b1]
  · replace h := br_t b1 h
    obtain ⟨r4, q2, h⟩ := bnd_some h
    have w3 := e91 a0.n r4 q2
    try simp -implicitDefEqProofs only [go_sem, Nat.reduceLT, Nat.reduceAdd, Nat.reduceSub, Nat.reduceMul, Nat.reduceEqDiff, Nat.reduceBEq, Nat.reduceLeDiff, Int.reduceToNat, Int.reduceLT, Int.reduceLE, Int.reduceEq, reduceCtorEq, ↓reduceIte] at w3
    try simp -implicitDefEqProofs only [go_sem, Nat.reduceLT, Nat.reduceAdd, Nat.reduceSub, Nat.reduceMul, Nat.reduceEqDiff, Nat.reduceBEq, Nat.reduceLeDiff, Int.reduceToNat, Int.reduceLT, Int.reduceLE, Int.reduceEq, reduceCtorEq, ↓reduceIte, X125_1, k125_1, b1, w3]
    cases b5 : (r4 : Bool)
    · replace h := br_f b5 h
      cases h
      simp -implicitDefEqProofs only [go_sem, Nat.reduceLT, Nat.reduceAdd, Nat.reduceSub, Nat.reduceMul, Nat.reduceEqDiff, Nat.reduceBEq, Nat.reduceLeDiff, Int.reduceToNat, Int.reduceLT, Int.reduceLE, Int.reduceEq, reduceCtorEq, ↓reduceIte, X125_1, k125_1, b1, w3, b5]
    · replace h := br_t b5 h
      cases h
      simp -implicitDefEqProofs only [go_sem, Nat.reduceLT, Nat.reduceAdd, Nat.reduceSub, Nat.reduceMul, Nat.reduceEqDiff, Nat.reduceBEq, Nat.reduceLeDiff, Int.reduceToNat, Int.reduceLT, Int.reduceLE, Int.reduceEq, reduceCtorEq, ↓reduceIte, X125_1, k125_1, b1, w3, b5]
theorem e125 (a0 : ReCell) (r : Bool) (h : m125 a0 = some r) : evFL T 125 [.agg [.int .i64 a0.kind, .int .i64 a0.n]] [] = some (.bool r, []) := by
  unfold m125 at h
  rw [evFL_at fn125 (Nat.le_of_ble_eq_true rfl) rfl (.inr rfl)]
  obtain ⟨v8, q6, h⟩ := bnd_some h
  have w7 := e125_1 a0 v8 q6
  simp only [X125_1] at w7
  try simp -implicitDefEqProofs only [go_sem, Nat.reduceLT, Nat.reduceAdd, Nat.reduceSub, Nat.reduceMul, Nat.reduceEqDiff, Nat.reduceBEq, Nat.reduceLeDiff, Int.reduceToNat, Int.reduceLT, Int.reduceLE, Int.reduceEq, reduceCtorEq, ↓reduceIte] at w7
  cases h
  simp -implicitDefEqProofs only [go_sem, Nat.reduceLT, Nat.reduceAdd, Nat.reduceSub, Nat.reduceMul, Nat.reduceEqDiff, Nat.reduceBEq, Nat.reduceLeDiff, Int.reduceToNat, Int.reduceLT, Int.reduceLE, Int.reduceEq, reduceCtorEq, ↓reduceIte, i125, c125, w7]
-- f84 impl.GoodRegex
theorem call84 (args : List AV) (S : St) : evCall T (evFL T) 84 args S = lendC (evFL T 84) S (lendAll S [[2]] args) := evCall0 fn84 rfl rfl args S
theorem callz84 (args : List AV) (S : St) : evCallFz T (evFL T) 84 args S = lendZ (evFL T 84) S [[0]] (lendAll S [[2]] args) := evCallFz0 fn84 rfl rfl args S
attribute [go_sem] call84 callz84
noncomputable def X84_1 (a0 : (List ReCell)) (o : Bool) : Ex × Fr × St :=
  (.normal, frOf 17 (upd (upd anyF 0 (.ts .imm 2 (a0.map encReCell))) 13 (.bool o)), [])
theorem e84_1 (a0 : (List ReCell)) (o : Bool) (h : m84_1 a0 = some o) : evCL T 0 k84_1 (frOf 17 (upd anyF 0 (.ts .imm 2 (a0.map encReCell)))) [] = some (X84_1 a0 o) := by
  unfold m84_1 at h
  obtain ⟨r3, q1, h⟩ := bnd_some h
  have w2 := e75 (↑a0.length : Int) 1 30 r3 q1
  try simp -implicitDefEqProofs only [go_sem, Nat.reduceLT, Nat.reduceAdd, Nat.reduceSub, Nat.reduceMul, Nat.reduceEqDiff, Nat.reduceBEq, Nat.reduceLeDiff, Int.reduceToNat, Int.reduceLT, Int.reduceLE, Int.reduceEq, reduceCtorEq, ↓reduceIte] at w2
  try simp -implicitDefEqProofs only [go_sem, Nat.reduceLT, Nat.reduceAdd, Nat.reduceSub, Nat.reduceMul, Nat.reduceEqDiff, Nat.reduceBEq, Nat.reduceLeDiff, Int.reduceToNat, Int.reduceLT, Int.reduceLE, Int.reduceEq, reduceCtorEq, ↓reduceIte, X84_1, k84_1, w2]
  cases b4 : (r3 : Bool)
  · replace h := br_f b4 h
    cases h
    simp -implicitDefEqProofs only [go_sem, Nat.reduceLT, Nat.reduceAdd, Nat.reduceSub, Nat.reduceMul, Nat.reduceEqDiff, Nat.reduceBEq, Nat.reduceLeDiff, Int.reduceToNat, Int.reduceLT, Int.reduceLE, Int.reduceEq, reduceCtorEq, ↓reduceIte, X84_1, k84_1, w2, b4]
  · replace h := br_t b4 h
    obtain ⟨r7, q5, h⟩ := bnd_some h
    have w6 := e123 a0 0 r7 q5
    try simp -implicitDefEqProofs only [go_sem, Nat.reduceLT, Nat.reduceAdd, Nat.reduceSub, Nat.reduceMul, Nat.reduceEqDiff, Nat.reduceBEq, Nat.reduceLeDiff, Int.reduceToNat, Int.reduceLT, Int.reduceLE, Int.reduceEq, reduceCtorEq, ↓reduceIte] at w6
    cases h
    simp -implicitDefEqProofs only [go_sem, Nat.reduceLT, Nat.reduceAdd, Nat.reduceSub, Nat.reduceMul, Nat.reduceEqDiff, Nat.reduceBEq, Nat.reduceLeDiff, Int.reduceToNat, Int.reduceLT, Int.reduceLE, Int.reduceEq, reduceCtorEq, ↓reduceIte, X84_1, k84_1, w2, b4, w6]
theorem e84 (a0 : (List ReCell)) (r : Bool) (h : m84 a0 = some r) : evFL T 84 [.ts .imm 2 (a0.map encReCell)] [] = some (.bool r, []) := by
  unfold m84 at h
  rw [evFL_at fn84 (Nat.le_of_ble_eq_true rfl) rfl (.inr rfl)]
  obtain ⟨v10, q8, h⟩ := bnd_some h
  have w9 := e84_1 a0 v10 q8
  simp only [X84_1] at w9
  try simp -implicitDefEqProofs only [go_sem, Nat.reduceLT, Nat.reduceAdd, Nat.reduceSub, Nat.reduceMul, Nat.reduceEqDiff, Nat.reduceBEq, Nat.reduceLeDiff, Int.reduceToNat, Int.reduceLT, Int.reduceLE, Int.reduceEq, reduceCtorEq, ↓reduceIte] at w9
  try simp -implicitDefEqProofs only [go_sem, Nat.reduceLT, Nat.reduceAdd, Nat.reduceSub, Nat.reduceMul, Nat.reduceEqDiff, Nat.reduceBEq, Nat.reduceLeDiff, Int.reduceToNat, Int.reduceLT, Int.reduceLE, Int.reduceEq, reduceCtorEq, ↓reduceIte, i84, c84, w9]
  cases b11 : (v10 : Bool)
  · replace h := br_f b11 h
    obtain ⟨r14, q12, h⟩ := bnd_some h
    have w13 := e124 a0 (fun y0 => m125 y0) 125 [] ⟨⟨fun S => by simp -implicitDefEqProofs only [go_sem, Nat.reduceLT, Nat.reduceAdd, Nat.reduceSub, Nat.reduceMul, Nat.reduceEqDiff, Nat.reduceBEq, Nat.reduceLeDiff, Int.reduceToNat, Int.reduceLT, Int.reduceLE, Int.reduceEq, reduceCtorEq, ↓reduceIte], fun _ _ _ _ _ _ => by simp -implicitDefEqProofs only [go_sem, Nat.reduceLT, Nat.reduceAdd, Nat.reduceSub, Nat.reduceMul, Nat.reduceEqDiff, Nat.reduceBEq, Nat.reduceLeDiff, Int.reduceToNat, Int.reduceLT, Int.reduceLE, Int.reduceEq, reduceCtorEq, ↓reduceIte]⟩, fun y0 r h => ⟨fun S => by simp -implicitDefEqProofs only [go_sem, Nat.reduceLT, Nat.reduceAdd, Nat.reduceSub, Nat.reduceMul, Nat.reduceEqDiff, Nat.reduceBEq, Nat.reduceLeDiff, Int.reduceToNat, Int.reduceLT, Int.reduceLE, Int.reduceEq, reduceCtorEq, ↓reduceIte, e125 y0 r h], fun S => by simp -implicitDefEqProofs only [go_sem, Nat.reduceLT, Nat.reduceAdd, Nat.reduceSub, Nat.reduceMul, Nat.reduceEqDiff, Nat.reduceBEq, Nat.reduceLeDiff, Int.reduceToNat, Int.reduceLT, Int.reduceLE, Int.reduceEq, reduceCtorEq, ↓reduceIte, e125 y0 r h]⟩⟩ r14 q12
    try simp -implicitDefEqProofs only [go_sem, Nat.reduceLT, Nat.reduceAdd, Nat.reduceSub, Nat.reduceMul, Nat.reduceEqDiff, Nat.reduceBEq, Nat.reduceLeDiff, Int.reduceToNat, Int.reduceLT, Int.reduceLE, Int.reduceEq, reduceCtorEq, ↓reduceIte] at w13
    cases h
    simp -implicitDefEqProofs only [go_sem, Nat.reduceLT, Nat.reduceAdd, Nat.reduceSub, Nat.reduceMul, Nat.reduceEqDiff, Nat.reduceBEq, Nat.reduceLeDiff, Int.reduceToNat, Int.reduceLT, Int.reduceLE, Int.reduceEq, reduceCtorEq, ↓reduceIte, i84, c84, w9, b11, w13]
  · replace h := br_t b11 h
    cases h
    simp -implicitDefEqProofs only [go_sem, Nat.reduceLT, Nat.reduceAdd, Nat.reduceSub, Nat.reduceMul, Nat.reduceEqDiff, Nat.reduceBEq, Nat.reduceLeDiff, Int.reduceToNat, Int.reduceLT, Int.reduceLE, Int.reduceEq, reduceCtorEq, ↓reduceIte, i84, c84, w9, b11]
-- f79 impl.isValue
theorem call79 (args : List AV) (S : St) : evCall T (evFL T) 79 args S = lendC (evFL T 79) S (lendAll S [[0]] args) := evCall0 fn79 rfl rfl args S
theorem callz79 (args : List AV) (S : St) : evCallFz T (evFL T) 79 args S = lendZ (evFL T 79) S [[0]] (lendAll S [[0]] args) := evCallFz0 fn79 rfl rfl args S
attribute [go_sem] call79 callz79
theorem e79 (a0 : Int) (r : Bool) (h : m79 a0 = some r) : evFL T 79 [.int .i64 a0] [] = some (.bool r, []) := by
  unfold m79 at h
  rw [evFL_at fn79 (Nat.le_of_ble_eq_true rfl) rfl (.inr rfl)]
  obtain ⟨r3, q1, h⟩ := bnd_some h
  have w2 := e75 a0 0 1000000 r3 q1
  try simp -implicitDefEqProofs only [go_sem, Nat.reduceLT, Nat.reduceAdd, Nat.reduceSub, Nat.reduceMul, Nat.reduceEqDiff, Nat.reduceBEq, Nat.reduceLeDiff, Int.reduceToNat, Int.reduceLT, Int.reduceLE, Int.reduceEq, reduceCtorEq, ↓reduceIte] at w2
  cases h
  simp -implicitDefEqProofs only [go_sem, Nat.reduceLT, Nat.reduceAdd, Nat.reduceSub, Nat.reduceMul, Nat.reduceEqDiff, Nat.reduceBEq, Nat.reduceLeDiff, Int.reduceToNat, Int.reduceLT, Int.reduceLE, Int.reduceEq, reduceCtorEq, ↓reduceIte, i79, c79, w2]
-- f126 slices.IndexFunc[[]impl.Range,impl.Range]
theorem call126 (args : List AV) (S : St) : evCall T (evFL T) 126 args S = lendC (evFL T 126) S (lendAll S [[4], [0]] args) := evCall0 fn126 rfl rfl args S
theorem callz126 (args : List AV) (S : St) : evCallFz T (evFL T) 126 args S = lendZ (evFL T 126) S [[0]] (lendAll S [[4], [0]] args) := evCallFz0 fn126 rfl rfl args S
attribute [go_sem] call126 callz126
noncomputable def X126_1 (a1_f : Nat) (a1_c : List AV) (a0 : (List Range)) (p1 : Int) (a1 : (Range → Option Bool)) (o : (Unit ⊕ Int)) : Ex × Fr × St :=
  match o with
  | .inl o => (.exit 0, frOf 19 (anyF), [])
  | .inr o => (.ret, frOf 19 (upd anyF 4 (.int .i64 o)), [])
noncomputable def E126_1 (a1_f : Nat) (a1_c : List AV) (a0 : (List Range)) (p1 : Int) (a1 : (Range → Option Bool)) (s : Int) : Fr × St := (frOf 19 (upd (upd (upd (upd anyF 0 (.ts .imm 4 (a0.map encRange))) 1 (.fn a1_f a1_c)) 7 (.int .i64 p1)) 8 (.int .i64 s)), [])
theorem b126_1 (a0 : (List Range)) (p1 : Int) (a1 : (Range → Option Bool)) (a1_f : Nat) (a1_c : List AV) (a1_h : ((∀ S, mapO (lendPtr S) a1_c = some a1_c) ∧ (∀ n0 src R tm t c, tdL n0 src R tm t c a1_c = some a1_c)) ∧ ∀ y0 r, a1 y0 = some r → (∀ S, evCall T (evFL T) a1_f ([.agg [.int .i64 y0.prefix_.addr, .int .i64 y0.prefix_.len, .int .i64 y0.lo, .int .i64 y0.hi]] ++ a1_c) S = some (.bool r, S)) ∧ (∀ S, evCallFz T (evFL T) a1_f ([.agg [.int .i64 y0.prefix_.addr, .int .i64 y0.prefix_.len, .int .i64 y0.lo, .int .i64 y0.hi]] ++ a1_c) S = some (.bool r, S))) (s : Int) (o : Ctl Int (Unit ⊕ Int)) (h : m126_1b a0 p1 a1 s = some o) : evCL T 0 k126_1b (E126_1 a1_f a1_c a0 p1 a1 s).1 (E126_1 a1_f a1_c a0 p1 a1 s).2 = some (ctlX (E126_1 a1_f a1_c a0 p1 a1) (X126_1 a1_f a1_c a0 p1 a1) o) := by
  unfold m126_1b at h
  revert h
  generalize s = s12
  intro h
  try simp -implicitDefEqProofs only [go_sem, Nat.reduceLT, Nat.reduceAdd, Nat.reduceSub, Nat.reduceMul, Nat.reduceEqDiff, Nat.reduceBEq, Nat.reduceLeDiff, Int.reduceToNat, Int.reduceLT, Int.reduceLE, Int.reduceEq, reduceCtorEq, ↓reduceIte, E126_1, X126_1, k126_1b, a1_h.1]
  cases b13 : (ltI s12 p1 : Bool)
  · replace h := br_f b13 h
    cases h
    simp -implicitDefEqProofs only [go_sem, Nat.reduceLT, Nat.reduceAdd, Nat.reduceSub, Nat.reduceMul, Nat.reduceEqDiff, Nat.reduceBEq, Nat.reduceLeDiff, Int.reduceToNat, Int.reduceLT, Int.reduceLE, Int.reduceEq, reduceCtorEq, ↓reduceIte, E126_1, X126_1, k126_1b, a1_h.1, b13]
  · replace h := br_t b13 h
    obtain ⟨x14, q15, h⟩ := bnd_some h
    obtain ⟨g16, g17, g18⟩ := idx_row encRange q15
    try simp -implicitDefEqProofs only [go_sem, Nat.reduceLT, Nat.reduceAdd, Nat.reduceSub, Nat.reduceMul, Nat.reduceEqDiff, Nat.reduceBEq, Nat.reduceLeDiff, Int.reduceToNat, Int.reduceLT, Int.reduceLE, Int.reduceEq, reduceCtorEq, ↓reduceIte] at g17
    try simp -implicitDefEqProofs only [go_sem, Nat.reduceLT, Nat.reduceAdd, Nat.reduceSub, Nat.reduceMul, Nat.reduceEqDiff, Nat.reduceBEq, Nat.reduceLeDiff, Int.reduceToNat, Int.reduceLT, Int.reduceLE, Int.reduceEq, reduceCtorEq, ↓reduceIte] at g18
    obtain ⟨r19, q20, h⟩ := bnd_some h
    have w21 := a1_h.2 x14 r19 q20
    try simp -implicitDefEqProofs only [go_sem, Nat.reduceLT, Nat.reduceAdd, Nat.reduceSub, Nat.reduceMul, Nat.reduceEqDiff, Nat.reduceBEq, Nat.reduceLeDiff, Int.reduceToNat, Int.reduceLT, Int.reduceLE, Int.reduceEq, reduceCtorEq, ↓reduceIte] at w21
    try simp -implicitDefEqProofs only [go_sem, Nat.reduceLT, Nat.reduceAdd, Nat.reduceSub, Nat.reduceMul, Nat.reduceEqDiff, Nat.reduceBEq, Nat.reduceLeDiff, Int.reduceToNat, Int.reduceLT, Int.reduceLE, Int.reduceEq, reduceCtorEq, ↓reduceIte, E126_1, X126_1, k126_1b, a1_h.1, b13, g16, g17, g18, w21.1, w21.2]
    cases b22 : (r19 : Bool)
    · replace h := br_f b22 h
      cases h
      simp -implicitDefEqProofs only [go_sem, Nat.reduceLT, Nat.reduceAdd, Nat.reduceSub, Nat.reduceMul, Nat.reduceEqDiff, Nat.reduceBEq, Nat.reduceLeDiff, Int.reduceToNat, Int.reduceLT, Int.reduceLE, Int.reduceEq, reduceCtorEq, ↓reduceIte, E126_1, X126_1, k126_1b, a1_h.1, b13, g16, g17, g18, w21.1, w21.2, b22]
    · replace h := br_t b22 h
      cases h
      simp -implicitDefEqProofs only [go_sem, Nat.reduceLT, Nat.reduceAdd, Nat.reduceSub, Nat.reduceMul, Nat.reduceEqDiff, Nat.reduceBEq, Nat.reduceLeDiff, Int.reduceToNat, Int.reduceLT, Int.reduceLE, Int.reduceEq, reduceCtorEq, ↓reduceIte, E126_1, X126_1, k126_1b, a1_h.1, b13, g16, g17, g18, w21.1, w21.2, b22]
theorem e126_1 (a0 : (List Range)) (p1 : Int) (a1 : (Range → Option Bool)) (a1_f : Nat) (a1_c : List AV) (a1_h : ((∀ S, mapO (lendPtr S) a1_c = some a1_c) ∧ (∀ n0 src R tm t c, tdL n0 src R tm t c a1_c = some a1_c)) ∧ ∀ y0 r, a1 y0 = some r → (∀ S, evCall T (evFL T) a1_f ([.agg [.int .i64 y0.prefix_.addr, .int .i64 y0.prefix_.len, .int .i64 y0.lo, .int .i64 y0.hi]] ++ a1_c) S = some (.bool r, S)) ∧ (∀ S, evCallFz T (evFL T) a1_f ([.agg [.int .i64 y0.prefix_.addr, .int .i64 y0.prefix_.len, .int .i64 y0.lo, .int .i64 y0.hi]] ++ a1_c) S = some (.bool r, S))) (s : Int) (o : (Unit ⊕ Int)) (h : loopP (m126_1b a0 p1 a1) s = some o) : evCL T 0 (.loop k126_1b) (E126_1 a1_f a1_c a0 p1 a1 s).1 (E126_1 a1_f a1_c a0 p1 a1 s).2 = some (X126_1 a1_f a1_c a0 p1 a1 o) :=
  loop_walk (E := E126_1 a1_f a1_c a0 p1 a1) (X := X126_1 a1_f a1_c a0 p1 a1) (by intro b; rcases b with b | b <;> (simp only [X126_1]; nofun)) (b126_1 a0 p1 a1 a1_f a1_c a1_h) s o h
theorem e126 (a0 : (List Range)) (a1 : (Range → Option Bool)) (a1_f : Nat) (a1_c : List AV) (a1_h : ((∀ S, mapO (lendPtr S) a1_c = some a1_c) ∧ (∀ n0 src R tm t c, tdL n0 src R tm t c a1_c = some a1_c)) ∧ ∀ y0 r, a1 y0 = some r → (∀ S, evCall T (evFL T) a1_f ([.agg [.int .i64 y0.prefix_.addr, .int .i64 y0.prefix_.len, .int .i64 y0.lo, .int .i64 y0.hi]] ++ a1_c) S = some (.bool r, S)) ∧ (∀ S, evCallFz T (evFL T) a1_f ([.agg [.int .i64 y0.prefix_.addr, .int .i64 y0.prefix_.len, .int .i64 y0.lo, .int .i64 y0.hi]] ++ a1_c) S = some (.bool r, S))) (r : Int) (h : m126 a0 a1 = some r) : evFL T 126 [.ts .imm 4 (a0.map encRange), .fn a1_f a1_c] [] = some (.int .i64 r, []) := by
  unfold m126 at h
  rw [evFL_at fn126 (Nat.le_of_ble_eq_true rfl) rfl (.inr rfl)]
  try simp -implicitDefEqProofs only [go_sem, Nat.reduceLT, Nat.reduceAdd, Nat.reduceSub, Nat.reduceMul, Nat.reduceEqDiff, Nat.reduceBEq, Nat.reduceLeDiff, Int.reduceToNat, Int.reduceLT, Int.reduceLE, Int.reduceEq, reduceCtorEq, ↓reduceIte, i126, c126, a1_h.1]
  obtain ⟨o, q23, h⟩ := bnd_some h
  rcases o with ⟨⟩ | v25
  · replace h := selS_l h
    have w24 := e126_1 a0 (↑a0.length : Int) a1 a1_f a1_c a1_h 0 (.inl ()) q23
    simp only [E126_1, X126_1] at w24
    try simp -implicitDefEqProofs only [go_sem, Nat.reduceLT, Nat.reduceAdd, Nat.reduceSub, Nat.reduceMul, Nat.reduceEqDiff, Nat.reduceBEq, Nat.reduceLeDiff, Int.reduceToNat, Int.reduceLT, Int.reduceLE, Int.reduceEq, reduceCtorEq, ↓reduceIte] at w24
    cases h
    simp -implicitDefEqProofs only [go_sem, Nat.reduceLT, Nat.reduceAdd, Nat.reduceSub, Nat.reduceMul, Nat.reduceEqDiff, Nat.reduceBEq, Nat.reduceLeDiff, Int.reduceToNat, Int.reduceLT, Int.reduceLE, Int.reduceEq, reduceCtorEq, ↓reduceIte, i126, c126, a1_h.1, w24]
  · replace h := selS_r h
    have w24 := e126_1 a0 (↑a0.length : Int) a1 a1_f a1_c a1_h 0 (.inr v25) q23
    simp only [E126_1, X126_1] at w24
    try simp -implicitDefEqProofs only [go_sem, Nat.reduceLT, Nat.reduceAdd, Nat.reduceSub, Nat.reduceMul, Nat.reduceEqDiff, Nat.reduceBEq, Nat.reduceLeDiff, Int.reduceToNat, Int.reduceLT, Int.reduceLE, Int.reduceEq, reduceCtorEq, ↓reduceIte] at w24
    cases h
    simp -implicitDefEqProofs only [go_sem, Nat.reduceLT, Nat.reduceAdd, Nat.reduceSub, Nat.reduceMul, Nat.reduceEqDiff, Nat.reduceBEq, Nat.reduceLeDiff, Int.reduceToNat, Int.reduceLT, Int.reduceLE, Int.reduceEq, reduceCtorEq, ↓reduceIte, i126, c126, a1_h.1, w24]
-- f85 slices.ContainsFunc[[]impl.Range,impl.Range]
theorem call85 (args : List AV) (S : St) : evCall T (evFL T) 85 args S = lendC (evFL T 85) S (lendAll S [[4], [0]] args) := evCall0 fn85 rfl rfl args S
theorem callz85 (args : List AV) (S : St) : evCallFz T (evFL T) 85 args S = lendZ (evFL T 85) S [[0]] (lendAll S [[4], [0]] args) := evCallFz0 fn85 rfl rfl args S
attribute [go_sem] call85 callz85
theorem e85 (a0 : (List Range)) (a1 : (Range → Option Bool)) (a1_f : Nat) (a1_c : List AV) (a1_h : ((∀ S, mapO (lendPtr S) a1_c = some a1_c) ∧ (∀ n0 src R tm t c, tdL n0 src R tm t c a1_c = some a1_c)) ∧ ∀ y0 r, a1 y0 = some r → (∀ S, evCall T (evFL T) a1_f ([.agg [.int .i64 y0.prefix_.addr, .int .i64 y0.prefix_.len, .int .i64 y0.lo, .int .i64 y0.hi]] ++ a1_c) S = some (.bool r, S)) ∧ (∀ S, evCallFz T (evFL T) a1_f ([.agg [.int .i64 y0.prefix_.addr, .int .i64 y0.prefix_.len, .int .i64 y0.lo, .int .i64 y0.hi]] ++ a1_c) S = some (.bool r, S))) (r : Bool) (h : m85 a0 a1 = some r) : evFL T 85 [.ts .imm 4 (a0.map encRange), .fn a1_f a1_c] [] = some (.bool r, []) := by
  unfold m85 at h
  rw [evFL_at fn85 (Nat.le_of_ble_eq_true rfl) rfl (.inr rfl)]
  obtain ⟨r3, q1, h⟩ := bnd_some h
  have w2 := e126 a0 a1 a1_f a1_c a1_h r3 q1
  try simp -implicitDefEqProofs only [go_sem, Nat.reduceLT, Nat.reduceAdd, Nat.reduceSub, Nat.reduceMul, Nat.reduceEqDiff, Nat.reduceBEq, Nat.reduceLeDiff, Int.reduceToNat, Int.reduceLT, Int.reduceLE, Int.reduceEq, reduceCtorEq, ↓reduceIte] at w2
  cases h
  simp -implicitDefEqProofs only [go_sem, Nat.reduceLT, Nat.reduceAdd, Nat.reduceSub, Nat.reduceMul, Nat.reduceEqDiff, Nat.reduceBEq, Nat.reduceLeDiff, Int.reduceToNat, Int.reduceLT, Int.reduceLE, Int.reduceEq, reduceCtorEq, ↓reduceIte, i85, c85, a1_h.1, w2]
-- f76 impl.isAddr
theorem call76 (args : List AV) (S : St) : evCall T (evFL T) 76 args S = lendC (evFL T 76) S (lendAll S [[0]] args) := evCall0 fn76 rfl rfl args S
theorem callz76 (args : List AV) (S : St) : evCallFz T (evFL T) 76 args S = lendZ (evFL T 76) S [[0]] (lendAll S [[0]] args) := evCallFz0 fn76 rfl rfl args S
attribute [go_sem] call76 callz76
theorem e76 (a0 : Int) (r : Bool) (h : m76 a0 = some r) : evFL T 76 [.int .i64 a0] [] = some (.bool r, []) := by
  unfold m76 at h
  rw [evFL_at fn76 (Nat.le_of_ble_eq_true rfl) rfl (.inr rfl)]
  obtain ⟨r3, q1, h⟩ := bnd_some h
  have w2 := e75 a0 0 4294967295 r3 q1
  try simp -implicitDefEqProofs only [go_sem, Nat.reduceLT, Nat.reduceAdd, Nat.reduceSub, Nat.reduceMul, Nat.reduceEqDiff, Nat.reduceBEq, Nat.reduceLeDiff, Int.reduceToNat, Int.reduceLT, Int.reduceLE, Int.reduceEq, reduceCtorEq, ↓reduceIte] at w2
  cases h
  simp -implicitDefEqProofs only [go_sem, Nat.reduceLT, Nat.reduceAdd, Nat.reduceSub, Nat.reduceMul, Nat.reduceEqDiff, Nat.reduceBEq, Nat.reduceLeDiff, Int.reduceToNat, Int.reduceLT, Int.reduceLE, Int.reduceEq, reduceCtorEq, ↓reduceIte, i76, c76, w2]
-- f77 impl.sizeOf
theorem call77 (args : List AV) (S : St) : evCall T (evFL T) 77 args S = lendC (evFL T 77) S (lendAll S [[0]] args) := evCall0 fn77 rfl rfl args S
theorem callz77 (args : List AV) (S : St) : evCallFz T (evFL T) 77 args S = lendZ (evFL T 77) S [[0]] (lendAll S [[0]] args) := evCallFz0 fn77 rfl rfl args S
attribute [go_sem] call77 callz77
theorem e77 (a0 : Int) (r : Int) (h : m77 a0 = some r) : evFL T 77 [.int .i64 a0] [] = some (.int .i64 r, []) := by
  unfold m77 at h
  rw [evFL_at fn77 (Nat.le_of_ble_eq_true rfl) rfl (.inr rfl)]
  obtain ⟨g1, h⟩ := ck_some h
  try simp -implicitDefEqProofs only [go_sem, Nat.reduceLT, Nat.reduceAdd, Nat.reduceSub, Nat.reduceMul, Nat.reduceEqDiff, Nat.reduceBEq, Nat.reduceLeDiff, Int.reduceToNat, Int.reduceLT, Int.reduceLE, Int.reduceEq, reduceCtorEq, ↓reduceIte] at g1
  cases h
  simp -implicitDefEqProofs only [go_sem, Nat.reduceLT, Nat.reduceAdd, Nat.reduceSub, Nat.reduceMul, Nat.reduceEqDiff, Nat.reduceBEq, Nat.reduceLeDiff, Int.reduceToNat, Int.reduceLT, Int.reduceLE, Int.reduceEq, reduceCtorEq, ↓reduceIte, i77, c77, g1]
-- f37 impl.GoodPrefix
theorem call37 (args : List AV) (S : St) : evCall T (evFL T) 37 args S = lendC (evFL T 37) S (lendAll S [[0, 0]] args) := evCall0 fn37 rfl rfl args S
theorem callz37 (args : List AV) (S : St) : evCallFz T (evFL T) 37 args S = lendZ (evFL T 37) S [[0]] (lendAll S [[0, 0]] args) := evCallFz0 fn37 rfl rfl args S
attribute [go_sem] call37 callz37
noncomputable def X37_1 (a0 : Prefix) (o : Bool) : Ex × Fr × St :=
  (.normal, frOf 20 (upd anyF 2 (.bool o)), [])
theorem e37_1 (a0 : Prefix) (o : Bool) (h : m37_1 a0 = some o) : evCL T 0 k37_1 (frOf 20 (upd anyF 1 (.ptr 0 0 0))) [some ⟨.box, 2, [[.int .i64 a0.addr, .int .i64 a0.len]]⟩] = some (X37_1 a0 o) := by
  unfold m37_1 at h
  obtain ⟨r3, q1, h⟩ := bnd_some h
  have w2 := e75 a0.len 0 32 r3 q1
  try simp -implicitDefEqProofs only [go_sem, Nat.reduceLT, Nat.reduceAdd, Nat.reduceSub, Nat.reduceMul, Nat.reduceEqDiff, Nat.reduceBEq, Nat.reduceLeDiff, Int.reduceToNat, Int.reduceLT, Int.reduceLE, Int.reduceEq, reduceCtorEq, ↓reduceIte] at w2
  try simp -implicitDefEqProofs only [go_sem, Nat.reduceLT, Nat.reduceAdd, Nat.reduceSub, Nat.reduceMul, Nat.reduceEqDiff, Nat.reduceBEq, Nat.reduceLeDiff, Int.reduceToNat, Int.reduceLT, Int.reduceLE, Int.reduceEq, reduceCtorEq, ↓reduceIte, X37_1, k37_1, w2]
  cases b4 : (r3 : Bool)
  · replace h := br_f b4 h
    cases h
    simp -implicitDefEqProofs only [go_sem, Nat.reduceLT, Nat.reduceAdd, Nat.reduceSub, Nat.reduceMul, Nat.reduceEqDiff, Nat.reduceBEq, Nat.reduceLeDiff, Int.reduceToNat, Int.reduceLT, Int.reduceLE, Int.reduceEq, reduceCtorEq, ↓reduceIte, X37_1, k37_1, w2, b4]
  · replace h := br_t b4 h
    obtain ⟨r7, q5, h⟩ := bnd_some h
    have w6 := e76 a0.addr r7 q5
    try simp -implicitDefEqProofs only [go_sem, Nat.reduceLT, Nat.reduceAdd, Nat.reduceSub, Nat.reduceMul, Nat.reduceEqDiff, Nat.reduceBEq, Nat.reduceLeDiff, Int.reduceToNat, Int.reduceLT, Int.reduceLE, Int.reduceEq, reduceCtorEq, ↓reduceIte] at w6
    try simp -implicitDefEqProofs only [go_sem, Nat.reduceLT, Nat.reduceAdd, Nat.reduceSub, Nat.reduceMul, Nat.reduceEqDiff, Nat.reduceBEq, Nat.reduceLeDiff, Int.reduceToNat, Int.reduceLT, Int.reduceLE, Int.reduceEq, reduceCtorEq, ↓reduceIte, X37_1, k37_1, w2, b4, w6]
    cases b8 : (r7 : Bool)
    · replace h := br_f b8 h
      cases h
      simp -implicitDefEqProofs only [go_sem, Nat.reduceLT, Nat.reduceAdd, Nat.reduceSub, Nat.reduceMul, Nat.reduceEqDiff, Nat.reduceBEq, Nat.reduceLeDiff, Int.reduceToNat, Int.reduceLT, Int.reduceLE, Int.reduceEq, reduceCtorEq, ↓reduceIte, X37_1, k37_1, w2, b4, w6, b8]
    · replace h := br_t b8 h
      obtain ⟨r11, q9, h⟩ := bnd_some h
      have w10 := e77 a0.len r11 q9
      try simp -implicitDefEqProofs only [go_sem, Nat.reduceLT, Nat.reduceAdd, Nat.reduceSub, Nat.reduceMul, Nat.reduceEqDiff, Nat.reduceBEq, Nat.reduceLeDiff, Int.reduceToNat, Int.reduceLT, Int.reduceLE, Int.reduceEq, reduceCtorEq, ↓reduceIte] at w10
      obtain ⟨g12, h⟩ := ck_some h
      try simp -implicitDefEqProofs only [go_sem, Nat.reduceLT, Nat.reduceAdd, Nat.reduceSub, Nat.reduceMul, Nat.reduceEqDiff, Nat.reduceBEq, Nat.reduceLeDiff, Int.reduceToNat, Int.reduceLT, Int.reduceLE, Int.reduceEq, reduceCtorEq, ↓reduceIte] at g12
      cases h
      simp -implicitDefEqProofs only [go_sem, Nat.reduceLT, Nat.reduceAdd, Nat.reduceSub, Nat.reduceMul, Nat.reduceEqDiff, Nat.reduceBEq, Nat.reduceLeDiff, Int.reduceToNat, Int.reduceLT, Int.reduceLE, Int.reduceEq, reduceCtorEq, ↓reduceIte, X37_1, k37_1, w2, b4, w6, b8, w10, g12]
theorem e37 (a0 : Prefix) (r : Bool) (h : m37 a0 = some r) : evFL T 37 [.agg [.int .i64 a0.addr, .int .i64 a0.len]] [] = some (.bool r, []) := by
  unfold m37 at h
  rw [evFL_at fn37 (Nat.le_of_ble_eq_true rfl) rfl (.inr rfl)]
  obtain ⟨v15, q13, h⟩ := bnd_some h
  have w14 := e37_1 a0 v15 q13
  simp only [X37_1] at w14
  try simp -implicitDefEqProofs only [go_sem, Nat.reduceLT, Nat.reduceAdd, Nat.reduceSub, Nat.reduceMul, Nat.reduceEqDiff, Nat.reduceBEq, Nat.reduceLeDiff, Int.reduceToNat, Int.reduceLT, Int.reduceLE, Int.reduceEq, reduceCtorEq, ↓reduceIte] at w14
  cases h
  simp -implicitDefEqProofs only [go_sem, Nat.reduceLT, Nat.reduceAdd, Nat.reduceSub, Nat.reduceMul, Nat.reduceEqDiff, Nat.reduceBEq, Nat.reduceLeDiff, Int.reduceToNat, Int.reduceLT, Int.reduceLE, Int.reduceEq, reduceCtorEq, ↓reduceIte, i37, c37, w14]
-- f86 impl.isTerm$1
theorem call86 (args : List AV) (S : St) : evCall T (evFL T) 86 args S = lendC (evFL T 86) S (lendAll S [[0, 0, 0, 0]] args) := evCall0 fn86 rfl rfl args S
theorem callz86 (args : List AV) (S : St) : evCallFz T (evFL T) 86 args S = lendZ (evFL T 86) S [[0]] (lendAll S [[0, 0, 0, 0]] args) := evCallFz0 fn86 rfl rfl args S
attribute [go_sem] call86 callz86
noncomputable def X86_1 (a0 : Range) (o : Bool) : Ex × Fr × St :=
  (.normal, frOf 27 (upd anyF 2 (.bool o)), [])
theorem e86_1 (a0 : Range) (o : Bool) (h : m86_1 a0 = some o) : evCL T 0 k86_1 (frOf 27 (upd anyF 1 (.ptr 0 0 0))) [some ⟨.box, 4, [[.int .i64 a0.prefix_.addr, .int .i64 a0.prefix_.len, .int .i64 a0.lo, .int .i64 a0.hi]]⟩] = some (X86_1 a0 o) := by
  unfold m86_1 at h
  obtain ⟨r3, q1, h⟩ := bnd_some h
  have w2 := e37 a0.prefix_ r3 q1
  try simp -implicitDefEqProofs only [go_sem, Nat.reduceLT, Nat.reduceAdd, Nat.reduceSub, Nat.reduceMul, Nat.reduceEqDiff, Nat.reduceBEq, Nat.reduceLeDiff, Int.reduceToNat, Int.reduceLT, Int.reduceLE, Int.reduceEq, reduceCtorEq, ↓reduceIte] at w2
  try simp -implicitDefEqProofs only [go_sem, Nat.reduceLT, Nat.reduceAdd, Nat.reduceSub, Nat.reduceMul, Nat.reduceEqDiff, Nat.reduceBEq, Nat.reduceLeDiff, Int.reduceToNat, Int.reduceLT, Int.reduceLE, Int.reduceEq, reduceCtorEq, ↓reduceIte, X86_1, k86_1, w2]
  cases b4 : (r3 : Bool)
  · replace h := br_f b4 h
    cases h
    simp -implicitDefEqProofs only [go_sem, Nat.reduceLT, Nat.reduceAdd, Nat.reduceSub, Nat.reduceMul, Nat.reduceEqDiff, Nat.reduceBEq, Nat.reduceLeDiff, Int.reduceToNat, Int.reduceLT, Int.reduceLE, Int.reduceEq, reduceCtorEq, ↓reduceIte, X86_1, k86_1, w2, b4]
  · replace h := br_t b4 h
    try simp -implicitDefEqProofs only [go_sem, Nat.reduceLT, Nat.reduceAdd, Nat.reduceSub, Nat.reduceMul, Nat.reduceEqDiff, Nat.reduceBEq, Nat.reduceLeDiff, Int.reduceToNat, Int.reduceLT, Int.reduceLE, Int.reduceEq, reduceCtorEq, ↓reduceIte, X86_1, k86_1, w2, b4]
    cases b5 : (ltI a0.lo a0.prefix_.len : Bool)
    · replace h := br_f b5 h
      try simp -implicitDefEqProofs only [go_sem, Nat.reduceLT, Nat.reduceAdd, Nat.reduceSub, Nat.reduceMul, Nat.reduceEqDiff, Nat.reduceBEq, Nat.reduceLeDiff, Int.reduceToNat, Int.reduceLT, Int.reduceLE, Int.reduceEq, reduceCtorEq, ↓reduceIte, X86_1, k86_1, w2, b4, b5]
      cases b6 : (ltI a0.hi a0.lo : Bool)
      · replace h := br_f b6 h
        cases h
        simp -implicitDefEqProofs only [go_sem, Nat.reduceLT, Nat.reduceAdd, Nat.reduceSub, Nat.reduceMul, Nat.reduceEqDiff, Nat.reduceBEq, Nat.reduceLeDiff, Int.reduceToNat, Int.reduceLT, Int.reduceLE, Int.reduceEq, reduceCtorEq, ↓reduceIte, X86_1, k86_1, w2, b4, b5, b6]
      · replace h := br_t b6 h
        cases h
        simp -implicitDefEqProofs only [go_sem, Nat.reduceLT, Nat.reduceAdd, Nat.reduceSub, Nat.reduceMul, Nat.reduceEqDiff, Nat.reduceBEq, Nat.reduceLeDiff, Int.reduceToNat, Int.reduceLT, Int.reduceLE, Int.reduceEq, reduceCtorEq, ↓reduceIte, X86_1, k86_1, w2, b4, b5, b6]
    · replace h := br_t b5 h
      cases h
      simp -implicitDefEqProofs only [go_sem, Nat.reduceLT, Nat.reduceAdd, Nat.reduceSub, Nat.reduceMul, Nat.reduceEqDiff, Nat.reduceBEq, Nat.reduceLeDiff, Int.reduceToNat, Int.reduceLT, Int.reduceLE, Int.reduceEq, reduceCtorEq, ↓reduceIte, X86_1, k86_1, w2, b4, b5]
theorem e86 (a0 : Range) (r : Bool) (h : m86 a0 = some r) : evFL T 86 [.agg [.int .i64 a0.prefix_.addr, .int .i64 a0.prefix_.len, .int .i64 a0.lo, .int .i64 a0.hi]] [] = some (.bool r, []) := by
  unfold m86 at h
  rw [evFL_at fn86 (Nat.le_of_ble_eq_true rfl) rfl (.inr rfl)]
  obtain ⟨v9, q7, h⟩ := bnd_some h
  have w8 := e86_1 a0 v9 q7
  simp only [X86_1] at w8
  try simp -implicitDefEqProofs only [go_sem, Nat.reduceLT, Nat.reduceAdd, Nat.reduceSub, Nat.reduceMul, Nat.reduceEqDiff, Nat.reduceBEq, Nat.reduceLeDiff, Int.reduceToNat, Int.reduceLT, Int.reduceLE, Int.reduceEq, reduceCtorEq, ↓reduceIte] at w8
  cases h
  simp -implicitDefEqProofs only [go_sem, Nat.reduceLT, Nat.reduceAdd, Nat.reduceSub, Nat.reduceMul, Nat.reduceEqDiff, Nat.reduceBEq, Nat.reduceLeDiff, Int.reduceToNat, Int.reduceLT, Int.reduceLE, Int.reduceEq, reduceCtorEq, ↓reduceIte, i86, c86, w8]
-- f127 slices.IndexFunc[[]impl.Act,impl.Act]
theorem call127 (args : List AV) (S : St) : evCall T (evFL T) 127 args S = lendC (evFL T 127) S (lendAll S [[2], [0]] args) := evCall0 fn127 rfl rfl args S
theorem callz127 (args : List AV) (S : St) : evCallFz T (evFL T) 127 args S = lendZ (evFL T 127) S [[0]] (lendAll S [[2], [0]] args) := evCallFz0 fn127 rfl rfl args S
attribute [go_sem] call127 callz127
noncomputable def X127_1 (a1_f : Nat) (a1_c : List AV) (a0 : (List Acn)) (p1 : Int) (a1 : (Acn → Option Bool)) (o : (Unit ⊕ Int)) : Ex × Fr × St :=
  match o with
  | .inl o => (.exit 0, frOf 19 (anyF), [])
  | .inr o => (.ret, frOf 19 (upd anyF 4 (.int .i64 o)), [])
noncomputable def E127_1 (a1_f : Nat) (a1_c : List AV) (a0 : (List Acn)) (p1 : Int) (a1 : (Acn → Option Bool)) (s : Int) : Fr × St := (frOf 19 (upd (upd (upd (upd anyF 0 (.ts .imm 2 (a0.map encAcn))) 1 (.fn a1_f a1_c)) 7 (.int .i64 p1)) 8 (.int .i64 s)), [])
theorem b127_1 (a0 : (List Acn)) (p1 : Int) (a1 : (Acn → Option Bool)) (a1_f : Nat) (a1_c : List AV) (a1_h : ((∀ S, mapO (lendPtr S) a1_c = some a1_c) ∧ (∀ n0 src R tm t c, tdL n0 src R tm t c a1_c = some a1_c)) ∧ ∀ y0 r, a1 y0 = some r → (∀ S, evCall T (evFL T) a1_f ([.agg [.int .i64 y0.kind, .int .i64 y0.n]] ++ a1_c) S = some (.bool r, S)) ∧ (∀ S, evCallFz T (evFL T) a1_f ([.agg [.int .i64 y0.kind, .int .i64 y0.n]] ++ a1_c) S = some (.bool r, S))) (s : Int) (o : Ctl Int (Unit ⊕ Int)) (h : m127_1b a0 p1 a1 s = some o) : evCL T 0 k127_1b (E127_1 a1_f a1_c a0 p1 a1 s).1 (E127_1 a1_f a1_c a0 p1 a1 s).2 = some (ctlX (E127_1 a1_f a1_c a0 p1 a1) (X127_1 a1_f a1_c a0 p1 a1) o) := by
  unfold m127_1b at h
  revert h
  generalize s = s12
  intro h
  try simp -implicitDefEqProofs only [go_sem, Nat.reduceLT, Nat.reduceAdd, Nat.reduceSub, Nat.reduceMul, Nat.reduceEqDiff, Nat.reduceBEq, Nat.reduceLeDiff, Int.reduceToNat, Int.reduceLT, Int.reduceLE, Int.reduceEq, reduceCtorEq, ↓reduceIte, E127_1, X127_1, k127_1b, a1_h.1]
  cases b13 : (ltI s12 p1 : Bool)
  · replace h := br_f b13 h
    cases h
    simp -implicitDefEqProofs only [go_sem, Nat.reduceLT, Nat.reduceAdd, Nat.reduceSub, Nat.reduceMul, Nat.reduceEqDiff, Nat.reduceBEq, Nat.reduceLeDiff, Int.reduceToNat, Int.reduceLT, Int.reduceLE, Int.reduceEq, reduceCtorEq, ↓reduceIte, E127_1, X127_1, k127_1b, a1_h.1, b13]
  · replace h := br_t b13 h
    obtain ⟨x14, q15, h⟩ := bnd_some h
    obtain ⟨g16, g17, g18⟩ := idx_row encAcn q15
    try simp -implicitDefEqProofs only [go_sem, Nat.reduceLT, Nat.reduceAdd, Nat.reduceSub, Nat.reduceMul, Nat.reduceEqDiff, Nat.reduceBEq, Nat.reduceLeDiff, Int.reduceToNat, Int.reduceLT, Int.reduceLE, Int.reduceEq, reduceCtorEq, ↓reduceIte] at g17
    try simp -implicitDefEqProofs only [go_sem, Nat.reduceLT, Nat.reduceAdd, Nat.reduceSub, Nat.reduceMul, Nat.reduceEqDiff, Nat.reduceBEq, Nat.reduceLeDiff, Int.reduceToNat, Int.reduceLT, Int.reduceLE, Int.reduceEq, reduceCtorEq, ↓reduceIte] at g18
    obtain ⟨r19, q20, h⟩ := bnd_some h
    have w21 := a1_h.2 x14 r19 q20
    try simp -implicitDefEqProofs only [go_sem, Nat.reduceLT, Nat.reduceAdd, Nat.reduceSub, Nat.reduceMul, Nat.reduceEqDiff, Nat.reduceBEq, Nat.reduceLeDiff, Int.reduceToNat, Int.reduceLT, Int.reduceLE, Int.reduceEq, reduceCtorEq, ↓reduceIte] at w21
    try simp -implicitDefEqProofs only [go_sem, Nat.reduceLT, Nat.reduceAdd, Nat.reduceSub, Nat.reduceMul, Nat.reduceEqDiff, Nat.reduceBEq, Nat.reduceLeDiff, Int.reduceToNat, Int.reduceLT, Int.reduceLE, Int.reduceEq, reduceCtorEq, ↓reduceIte, E127_1, X127_1, k127_1b, a1_h.1, b13, g16, g17, g18, w21.1, w21.2]
    cases b22 : (r19 : Bool)
    · replace h := br_f b22 h
      cases h
      simp -implicitDefEqProofs only [go_sem, Nat.reduceLT, Nat.reduceAdd, Nat.reduceSub, Nat.reduceMul, Nat.reduceEqDiff, Nat.reduceBEq, Nat.reduceLeDiff, Int.reduceToNat, Int.reduceLT, Int.reduceLE, Int.reduceEq, reduceCtorEq, ↓reduceIte, E127_1, X127_1, k127_1b, a1_h.1, b13, g16, g17, g18, w21.1, w21.2, b22]
    · replace h := br_t b22 h
      cases h
      simp -implicitDefEqProofs only [go_sem, Nat.reduceLT, Nat.reduceAdd, Nat.reduceSub, Nat.reduceMul, Nat.reduceEqDiff, Nat.reduceBEq, Nat.reduceLeDiff, Int.reduceToNat, Int.reduceLT, Int.reduceLE, Int.reduceEq, reduceCtorEq, ↓reduceIte, E127_1, X127_1, k127_1b, a1_h.1, b13, g16, g17, g18, w21.1, w21.2, b22]
theorem e127_1 (a0 : (List Acn)) (p1 : Int) (a1 : (Acn → Option Bool)) (a1_f : Nat) (a1_c : List AV) (a1_h : ((∀ S, mapO (lendPtr S) a1_c = some a1_c) ∧ (∀ n0 src R tm t c, tdL n0 src R tm t c a1_c = some a1_c)) ∧ ∀ y0 r, a1 y0 = some r → (∀ S, evCall T (evFL T) a1_f ([.agg [.int .i64 y0.kind, .int .i64 y0.n]] ++ a1_c) S = some (.bool r, S)) ∧ (∀ S, evCallFz T (evFL T) a1_f ([.agg [.int .i64 y0.kind, .int .i64 y0.n]] ++ a1_c) S = some (.bool r, S))) (s : Int) (o : (Unit ⊕ Int)) (h : loopP (m127_1b a0 p1 a1) s = some o) : evCL T 0 (.loop k127_1b) (E127_1 a1_f a1_c a0 p1 a1 s).1 (E127_1 a1_f a1_c a0 p1 a1 s).2 = some (X127_1 a1_f a1_c a0 p1 a1 o) :=
  loop_walk (E := E127_1 a1_f a1_c a0 p1 a1) (X := X127_1 a1_f a1_c a0 p1 a1) (by intro b; rcases b with b | b <;> (simp only [X127_1]; nofun)) (b127_1 a0 p1 a1 a1_f a1_c a1_h) s o h
theorem e127 (a0 : (List Acn)) (a1 : (Acn → Option Bool)) (a1_f : Nat) (a1_c : List AV) (a1_h : ((∀ S, mapO (lendPtr S) a1_c = some a1_c) ∧ (∀ n0 src R tm t c, tdL n0 src R tm t c a1_c = some a1_c)) ∧ ∀ y0 r, a1 y0 = some r → (∀ S, evCall T (evFL T) a1_f ([.agg [.int .i64 y0.kind, .int .i64 y0.n]] ++ a1_c) S = some (.bool r, S)) ∧ (∀ S, evCallFz T (evFL T) a1_f ([.agg [.int .i64 y0.kind, .int .i64 y0.n]] ++ a1_c) S = some (.bool r, S))) (r : Int) (h : m127 a0 a1 = some r) : evFL T 127 [.ts .imm 2 (a0.map encAcn), .fn a1_f a1_c] [] = some (.int .i64 r, []) := by
  unfold m127 at h
  rw [evFL_at fn127 (Nat.le_of_ble_eq_true rfl) rfl (.inr rfl)]
  try simp -implicitDefEqProofs only [go_sem, Nat.reduceLT, Nat.reduceAdd, Nat.reduceSub, Nat.reduceMul, Nat.reduceEqDiff, Nat.reduceBEq, Nat.reduceLeDiff, Int.reduceToNat, Int.reduceLT, Int.reduceLE, Int.reduceEq, reduceCtorEq, ↓reduceIte, i127, c127, a1_h.1]
  obtain ⟨o, q23, h⟩ := bnd_some h
  rcases o with ⟨⟩ | v25
  · replace h := selS_l h
    have w24 := e127_1 a0 (↑a0.length : Int) a1 a1_f a1_c a1_h 0 (.inl ()) q23
    simp only [E127_1, X127_1] at w24
    try simp -implicitDefEqProofs only [go_sem, Nat.reduceLT, Nat.reduceAdd, Nat.reduceSub, Nat.reduceMul, Nat.reduceEqDiff, Nat.reduceBEq, Nat.reduceLeDiff, Int.reduceToNat, Int.reduceLT, Int.reduceLE, Int.reduceEq, reduceCtorEq, ↓reduceIte] at w24
    cases h
    simp -implicitDefEqProofs only [go_sem, Nat.reduceLT, Nat.reduceAdd, Nat.reduceSub, Nat.reduceMul, Nat.reduceEqDiff, Nat.reduceBEq, Nat.reduceLeDiff, Int.reduceToNat, Int.reduceLT, Int.reduceLE, Int.reduceEq, reduceCtorEq, ↓reduceIte, i127, c127, a1_h.1, w24]
  · replace h := selS_r h
    have w24 := e127_1 a0 (↑a0.length : Int) a1 a1_f a1_c a1_h 0 (.inr v25) q23
    simp only [E127_1, X127_1] at w24
    try simp -implicitDefEqProofs only [go_sem, Nat.reduceLT, Nat.reduceAdd, Nat.reduceSub, Nat.reduceMul, Nat.reduceEqDiff, Nat.reduceBEq, Nat.reduceLeDiff, Int.reduceToNat, Int.reduceLT, Int.reduceLE, Int.reduceEq, reduceCtorEq, ↓reduceIte] at w24
    cases h
    simp -implicitDefEqProofs only [go_sem, Nat.reduceLT, Nat.reduceAdd, Nat.reduceSub, Nat.reduceMul, Nat.reduceEqDiff, Nat.reduceBEq, Nat.reduceLeDiff, Int.reduceToNat, Int.reduceLT, Int.reduceLE, Int.reduceEq, reduceCtorEq, ↓reduceIte, i127, c127, a1_h.1, w24]
-- f87 slices.ContainsFunc[[]impl.Act,impl.Act]
theorem call87 (args : List AV) (S : St) : evCall T (evFL T) 87 args S = lendC (evFL T 87) S (lendAll S [[2], [0]] args) := evCall0 fn87 rfl rfl args S
theorem callz87 (args : List AV) (S : St) : evCallFz T (evFL T) 87 args S = lendZ (evFL T 87) S [[0]] (lendAll S [[2], [0]] args) := evCallFz0 fn87 rfl rfl args S
attribute [go_sem] call87 callz87
theorem e87 (a0 : (List Acn)) (a1 : (Acn → Option Bool)) (a1_f : Nat) (a1_c : List AV) (a1_h : ((∀ S, mapO (lendPtr S) a1_c = some a1_c) ∧ (∀ n0 src R tm t c, tdL n0 src R tm t c a1_c = some a1_c)) ∧ ∀ y0 r, a1 y0 = some r → (∀ S, evCall T (evFL T) a1_f ([.agg [.int .i64 y0.kind, .int .i64 y0.n]] ++ a1_c) S = some (.bool r, S)) ∧ (∀ S, evCallFz T (evFL T) a1_f ([.agg [.int .i64 y0.kind, .int .i64 y0.n]] ++ a1_c) S = some (.bool r, S))) (r : Bool) (h : m87 a0 a1 = some r) : evFL T 87 [.ts .imm 2 (a0.map encAcn), .fn a1_f a1_c] [] = some (.bool r, []) := by
  unfold m87 at h
  rw [evFL_at fn87 (Nat.le_of_ble_eq_true rfl) rfl (.inr rfl)]
  obtain ⟨r3, q1, h⟩ := bnd_some h
  have w2 := e127 a0 a1 a1_f a1_c a1_h r3 q1
  try simp -implicitDefEqProofs only [go_sem, Nat.reduceLT, Nat.reduceAdd, Nat.reduceSub, Nat.reduceMul, Nat.reduceEqDiff, Nat.reduceBEq, Nat.reduceLeDiff, Int.reduceToNat, Int.reduceLT, Int.reduceLE, Int.reduceEq, reduceCtorEq, ↓reduceIte] at w2
  cases h
  simp -implicitDefEqProofs only [go_sem, Nat.reduceLT, Nat.reduceAdd, Nat.reduceSub, Nat.reduceMul, Nat.reduceEqDiff, Nat.reduceBEq, Nat.reduceLeDiff, Int.reduceToNat, Int.reduceLT, Int.reduceLE, Int.reduceEq, reduceCtorEq, ↓reduceIte, i87, c87, a1_h.1, w2]
-- f50 impl.isAct
theorem call50 (args : List AV) (S : St) : evCall T (evFL T) 50 args S = lendC (evFL T 50) S (lendAll S [[0, 0]] args) := evCall0 fn50 rfl rfl args S
theorem callz50 (args : List AV) (S : St) : evCallFz T (evFL T) 50 args S = lendZ (evFL T 50) S [[0]] (lendAll S [[0, 0]] args) := evCallFz0 fn50 rfl rfl args S
attribute [go_sem] call50 callz50
noncomputable def X50_3 (a0 : Acn) (p5 : Bool) (o : Bool) : Ex × Fr × St :=
  (.normal, frOf 18 (upd (upd (upd anyF 1 (.ptr 0 0 0)) 4 (.int .i64 a0.kind)) 5 (.bool o)), [some ⟨.box, 2, [[.int .i64 a0.kind, .int .i64 a0.n]]⟩])
theorem e50_3 (a0 : Acn) (p5 : Bool) (o : Bool) (h : m50_3 a0 p5 = some o) : evCL T 0 k50_3 (frOf 18 (upd (upd (upd anyF 1 (.ptr 0 0 0)) 4 (.int .i64 a0.kind)) 5 (.bool p5))) [some ⟨.box, 2, [[.int .i64 a0.kind, .int .i64 a0.n]]⟩] = some (X50_3 a0 p5 o) := by
  unfold m50_3 at h
  try simp -implicitDefEqProofs only [go_sem, Nat.reduceLT, Nat.reduceAdd, Nat.reduceSub, Nat.reduceMul, Nat.reduceEqDiff, Nat.reduceBEq, Nat.reduceLeDiff, Int.reduceToNat, Int.reduceLT, Int.reduceLE, Int.reduceEq, reduceCtorEq, ↓reduceIte, X50_3, k50_3]
  cases b6 : (p5 : Bool)
  · replace h := br_f b6 h
    cases h
    simp -implicitDefEqProofs only [go_sem, Nat.reduceLT, Nat.reduceAdd, Nat.reduceSub, Nat.reduceMul, Nat.reduceEqDiff, Nat.reduceBEq, Nat.reduceLeDiff, Int.reduceToNat, Int.reduceLT, Int.reduceLE, Int.reduceEq, reduceCtorEq, ↓reduceIte, X50_3, k50_3, b6]
  · replace h := br_t b6 h
    cases h
    simp -implicitDefEqProofs only [go_sem, Nat.reduceLT, Nat.reduceAdd, Nat.reduceSub, Nat.reduceMul, Nat.reduceEqDiff, Nat.reduceBEq, Nat.reduceLeDiff, Int.reduceToNat, Int.reduceLT, Int.reduceLE, Int.reduceEq, reduceCtorEq, ↓reduceIte, X50_3, k50_3, b6]
noncomputable def X50_2 (a0 : Acn) (p3 : Bool) (o : Bool) : Ex × Fr × St :=
  (.normal, frOf 18 (upd (upd (upd anyF 1 (.ptr 0 0 0)) 4 (.int .i64 a0.kind)) 5 (.bool o)), [some ⟨.box, 2, [[.int .i64 a0.kind, .int .i64 a0.n]]⟩])
theorem e50_2 (a0 : Acn) (p3 : Bool) (o : Bool) (h : m50_2 a0 p3 = some o) : evCL T 0 k50_2 (frOf 18 (upd (upd (upd anyF 1 (.ptr 0 0 0)) 4 (.int .i64 a0.kind)) 5 (.bool p3))) [some ⟨.box, 2, [[.int .i64 a0.kind, .int .i64 a0.n]]⟩] = some (X50_2 a0 p3 o) := by
  unfold m50_2 at h
  try simp -implicitDefEqProofs only [go_sem, Nat.reduceLT, Nat.reduceAdd, Nat.reduceSub, Nat.reduceMul, Nat.reduceEqDiff, Nat.reduceBEq, Nat.reduceLeDiff, Int.reduceToNat, Int.reduceLT, Int.reduceLE, Int.reduceEq, reduceCtorEq, ↓reduceIte, X50_2, k50_2]
  cases b4 : (p3 : Bool)
  · replace h := br_f b4 h
    obtain ⟨v9, q7, h⟩ := bnd_some h
    have w8 := e50_3 a0 (eqI a0.kind 3) v9 q7
    simp only [X50_3] at w8
    try simp -implicitDefEqProofs only [go_sem, Nat.reduceLT, Nat.reduceAdd, Nat.reduceSub, Nat.reduceMul, Nat.reduceEqDiff, Nat.reduceBEq, Nat.reduceLeDiff, Int.reduceToNat, Int.reduceLT, Int.reduceLE, Int.reduceEq, reduceCtorEq, ↓reduceIte] at w8
    cases h
    simp -implicitDefEqProofs only [go_sem, Nat.reduceLT, Nat.reduceAdd, Nat.reduceSub, Nat.reduceMul, Nat.reduceEqDiff, Nat.reduceBEq, Nat.reduceLeDiff, Int.reduceToNat, Int.reduceLT, Int.reduceLE, Int.reduceEq, reduceCtorEq, ↓reduceIte, X50_2, k50_2, b4, w8]
  · replace h := br_t b4 h
    cases h
    simp -implicitDefEqProofs only [go_sem, Nat.reduceLT, Nat.reduceAdd, Nat.reduceSub, Nat.reduceMul, Nat.reduceEqDiff, Nat.reduceBEq, Nat.reduceLeDiff, Int.reduceToNat, Int.reduceLT, Int.reduceLE, Int.reduceEq, reduceCtorEq, ↓reduceIte, X50_2, k50_2, b4]
noncomputable def X50_1 (a0 : Acn) (p1 : Bool) (o : Bool) : Ex × Fr × St :=
  (.normal, frOf 18 (upd (upd (upd anyF 1 (.ptr 0 0 0)) 4 (.int .i64 a0.kind)) 5 (.bool o)), [some ⟨.box, 2, [[.int .i64 a0.kind, .int .i64 a0.n]]⟩])
theorem e50_1 (a0 : Acn) (p1 : Bool) (o : Bool) (h : m50_1 a0 p1 = some o) : evCL T 0 k50_1 (frOf 18 (upd (upd (upd anyF 1 (.ptr 0 0 0)) 4 (.int .i64 a0.kind)) 5 (.bool p1))) [some ⟨.box, 2, [[.int .i64 a0.kind, .int .i64 a0.n]]⟩] = some (X50_1 a0 p1 o) := by
  unfold m50_1 at h
  try simp -implicitDefEqProofs only [go_sem, Nat.reduceLT, Nat.reduceAdd, Nat.reduceSub, Nat.reduceMul, Nat.reduceEqDiff, Nat.reduceBEq, Nat.reduceLeDiff, Int.reduceToNat, Int.reduceLT, Int.reduceLE, Int.reduceEq, reduceCtorEq, ↓reduceIte, X50_1, k50_1]
  cases b2 : (p1 : Bool)
  · replace h := br_f b2 h
    obtain ⟨v12, q10, h⟩ := bnd_some h
    have w11 := e50_2 a0 (eqI a0.kind 2) v12 q10
    simp only [X50_2] at w11
    try simp -implicitDefEqProofs only [go_sem, Nat.reduceLT, Nat.reduceAdd, Nat.reduceSub, Nat.reduceMul, Nat.reduceEqDiff, Nat.reduceBEq, Nat.reduceLeDiff, Int.reduceToNat, Int.reduceLT, Int.reduceLE, Int.reduceEq, reduceCtorEq, ↓reduceIte] at w11
    cases h
    simp -implicitDefEqProofs only [go_sem, Nat.reduceLT, Nat.reduceAdd, Nat.reduceSub, Nat.reduceMul, Nat.reduceEqDiff, Nat.reduceBEq, Nat.reduceLeDiff, Int.reduceToNat, Int.reduceLT, Int.reduceLE, Int.reduceEq, reduceCtorEq, ↓reduceIte, X50_1, k50_1, b2, w11]
  · replace h := br_t b2 h
    cases h
    simp -implicitDefEqProofs only [go_sem, Nat.reduceLT, Nat.reduceAdd, Nat.reduceSub, Nat.reduceMul, Nat.reduceEqDiff, Nat.reduceBEq, Nat.reduceLeDiff, Int.reduceToNat, Int.reduceLT, Int.reduceLE, Int.reduceEq, reduceCtorEq, ↓reduceIte, X50_1, k50_1, b2]
theorem e50 (a0 : Acn) (r : Bool) (h : m50 a0 = some r) : evFL T 50 [.agg [.int .i64 a0.kind, .int .i64 a0.n]] [] = some (.bool r, []) := by
  unfold m50 at h
  rw [evFL_at fn50 (Nat.le_of_ble_eq_true rfl) rfl (.inr rfl)]
  obtain ⟨v15, q13, h⟩ := bnd_some h
  have w14 := e50_1 a0 (eqI a0.kind 1) v15 q13
  simp only [X50_1] at w14
  try simp -implicitDefEqProofs only [go_sem, Nat.reduceLT, Nat.reduceAdd, Nat.reduceSub, Nat.reduceMul, Nat.reduceEqDiff, Nat.reduceBEq, Nat.reduceLeDiff, Int.reduceToNat, Int.reduceLT, Int.reduceLE, Int.reduceEq, reduceCtorEq, ↓reduceIte] at w14
  try simp -implicitDefEqProofs only [go_sem, Nat.reduceLT, Nat.reduceAdd, Nat.reduceSub, Nat.reduceMul, Nat.reduceEqDiff, Nat.reduceBEq, Nat.reduceLeDiff, Int.reduceToNat, Int.reduceLT, Int.reduceLE, Int.reduceEq, reduceCtorEq, ↓reduceIte, i50, c50, w14]
  cases b16 : (v15 : Bool)
  · replace h := br_f b16 h
    try simp -implicitDefEqProofs only [go_sem, Nat.reduceLT, Nat.reduceAdd, Nat.reduceSub, Nat.reduceMul, Nat.reduceEqDiff, Nat.reduceBEq, Nat.reduceLeDiff, Int.reduceToNat, Int.reduceLT, Int.reduceLE, Int.reduceEq, reduceCtorEq, ↓reduceIte, i50, c50, w14, b16]
    cases b20 : (eqI a0.kind 5 : Bool)
    · replace h := br_f b20 h
      cases h
      simp -implicitDefEqProofs only [go_sem, Nat.reduceLT, Nat.reduceAdd, Nat.reduceSub, Nat.reduceMul, Nat.reduceEqDiff, Nat.reduceBEq, Nat.reduceLeDiff, Int.reduceToNat, Int.reduceLT, Int.reduceLE, Int.reduceEq, reduceCtorEq, ↓reduceIte, i50, c50, w14, b16, b20]
    · replace h := br_t b20 h
      obtain ⟨r23, q21, h⟩ := bnd_some h
      have w22 := e91 a0.n r23 q21
      try simp -implicitDefEqProofs only [go_sem, Nat.reduceLT, Nat.reduceAdd, Nat.reduceSub, Nat.reduceMul, Nat.reduceEqDiff, Nat.reduceBEq, Nat.reduceLeDiff, Int.reduceToNat, Int.reduceLT, Int.reduceLE, Int.reduceEq, reduceCtorEq, ↓reduceIte] at w22
      cases h
      simp -implicitDefEqProofs only [go_sem, Nat.reduceLT, Nat.reduceAdd, Nat.reduceSub, Nat.reduceMul, Nat.reduceEqDiff, Nat.reduceBEq, Nat.reduceLeDiff, Int.reduceToNat, Int.reduceLT, Int.reduceLE, Int.reduceEq, reduceCtorEq, ↓reduceIte, i50, c50, w14, b16, b20, w22]
  · replace h := br_t b16 h
    obtain ⟨r19, q17, h⟩ := bnd_some h
    have w18 := e79 a0.n r19 q17
    try simp -implicitDefEqProofs only [go_sem, Nat.reduceLT, Nat.reduceAdd, Nat.reduceSub, Nat.reduceMul, Nat.reduceEqDiff, Nat.reduceBEq, Nat.reduceLeDiff, Int.reduceToNat, Int.reduceLT, Int.reduceLE, Int.reduceEq, reduceCtorEq, ↓reduceIte] at w18
    cases h
    simp -implicitDefEqProofs only [go_sem, Nat.reduceLT, Nat.reduceAdd, Nat.reduceSub, Nat.reduceMul, Nat.reduceEqDiff, Nat.reduceBEq, Nat.reduceLeDiff, Int.reduceToNat, Int.reduceLT, Int.reduceLE, Int.reduceEq, reduceCtorEq, ↓reduceIte, i50, c50, w14, b16, w18]
-- f88 impl.isTerm$2
theorem call88 (args : List AV) (S : St) : evCall T (evFL T) 88 args S = lendC (evFL T 88) S (lendAll S [[0, 0]] args) := evCall0 fn88 rfl rfl args S
theorem callz88 (args : List AV) (S : St) : evCallFz T (evFL T) 88 args S = lendZ (evFL T 88) S [[0]] (lendAll S [[0, 0]] args) := evCallFz0 fn88 rfl rfl args S
attribute [go_sem] call88 callz88
theorem e88 (a0 : Acn) (r : Bool) (h : m88 a0 = some r) : evFL T 88 [.agg [.int .i64 a0.kind, .int .i64 a0.n]] [] = some (.bool r, []) := by
  unfold m88 at h
  rw [evFL_at fn88 (Nat.le_of_ble_eq_true rfl) rfl (.inr rfl)]
  obtain ⟨r3, q1, h⟩ := bnd_some h
  have w2 := e50 a0 r3 q1
  try simp -implicitDefEqProofs only [go_sem, Nat.reduceLT, Nat.reduceAdd, Nat.reduceSub, Nat.reduceMul, Nat.reduceEqDiff, Nat.reduceBEq, Nat.reduceLeDiff, Int.reduceToNat, Int.reduceLT, Int.reduceLE, Int.reduceEq, reduceCtorEq, ↓reduceIte] at w2
  cases h
  simp -implicitDefEqProofs only [go_sem, Nat.reduceLT, Nat.reduceAdd, Nat.reduceSub, Nat.reduceMul, Nat.reduceEqDiff, Nat.reduceBEq, Nat.reduceLeDiff, Int.reduceToNat, Int.reduceLT, Int.reduceLE, Int.reduceEq, reduceCtorEq, ↓reduceIte, i88, c88, w2]
-- f46 impl.isTerm
theorem call46 (args : List AV) (S : St) : evCall T (evFL T) 46 args S = lendC (evFL T 46) S (lendAll S [[4, 2, 0, 2, 0]] args) := evCall0 fn46 rfl rfl args S
theorem callz46 (args : List AV) (S : St) : evCallFz T (evFL T) 46 args S = lendZ (evFL T 46) S [[0]] (lendAll S [[4, 2, 0, 2, 0]] args) := evCallFz0 fn46 rfl rfl args S
attribute [go_sem] call46 callz46
noncomputable def X46_1 (a0 : Term) (o : Bool) : Ex × Fr × St :=
  (.normal, frOf 52 (upd (upd anyF 1 (.ptr 0 0 0)) 41 (.bool o)), [some ⟨.box, 5, [[.ts .imm 4 (a0.ranges.map encRange), .ts .imm 2 (a0.path.map encReCell), .int .i64 a0.comm, .ts .imm 2 (a0.acts.map encAcn), .int .i64 a0.verdict]]⟩])
theorem e46_1 (a0 : Term) (o : Bool) (h : m46_1 a0 = some o) : evCL T 0 k46_1 (frOf 52 (upd anyF 1 (.ptr 0 0 0))) [some ⟨.box, 5, [[.ts .imm 4 (a0.ranges.map encRange), .ts .imm 2 (a0.path.map encReCell), .int .i64 a0.comm, .ts .imm 2 (a0.acts.map encAcn), .int .i64 a0.verdict]]⟩] = some (X46_1 a0 o) := by
  unfold m46_1 at h
  try simp -implicitDefEqProofs only [go_sem, Nat.reduceLT, Nat.reduceAdd, Nat.reduceSub, Nat.reduceMul, Nat.reduceEqDiff, Nat.reduceBEq, Nat.reduceLeDiff, Int.reduceToNat, Int.reduceLT, Int.reduceLE, Int.reduceEq, reduceCtorEq, ↓reduceIte, X46_1, k46_1]
  cases b1 : (ltI 6 (↑a0.ranges.length : Int) : Bool)
  · replace h := br_f b1 h
    try simp -implicitDefEqProofs only [go_sem, Nat.reduceLT, Nat.reduceAdd, Nat.reduceSub, Nat.reduceMul, Nat.reduceEqDiff, Nat.reduceBEq, Nat.reduceLeDiff, Int.reduceToNat, Int.reduceLT, Int.reduceLE, Int.reduceEq, reduceCtorEq, ↓reduceIte, X46_1, k46_1, b1]
    cases b2 : (ltI 0 (↑a0.path.length : Int) : Bool)
    · replace h := br_f b2 h
      try simp -implicitDefEqProofs only [go_sem, Nat.reduceLT, Nat.reduceAdd, Nat.reduceSub, Nat.reduceMul, Nat.reduceEqDiff, Nat.reduceBEq, Nat.reduceLeDiff, Int.reduceToNat, Int.reduceLT, Int.reduceLE, Int.reduceEq, reduceCtorEq, ↓reduceIte, X46_1, k46_1, b1, b2]
      cases b20 : (eqI a0.comm (-1) : Bool)
      · replace h := br_f b20 h
        obtain ⟨r27, q25, h⟩ := bnd_some h
        have w26 := e79 a0.comm r27 q25
        try simp -implicitDefEqProofs only [go_sem, Nat.reduceLT, Nat.reduceAdd, Nat.reduceSub, Nat.reduceMul, Nat.reduceEqDiff, Nat.reduceBEq, Nat.reduceLeDiff, Int.reduceToNat, Int.reduceLT, Int.reduceLE, Int.reduceEq, reduceCtorEq, ↓reduceIte] at w26
        try simp -implicitDefEqProofs only [go_sem, Nat.reduceLT, Nat.reduceAdd, Nat.reduceSub, Nat.reduceMul, Nat.reduceEqDiff, Nat.reduceBEq, Nat.reduceLeDiff, Int.reduceToNat, Int.reduceLT, Int.reduceLE, Int.reduceEq, reduceCtorEq, ↓reduceIte, X46_1, k46_1, b1, b2, b20, w26]
        cases b28 : (r27 : Bool)
        · replace h := br_f b28 h
          cases h
          simp -implicitDefEqProofs only [go_sem, Nat.reduceLT, Nat.reduceAdd, Nat.reduceSub, Nat.reduceMul, Nat.reduceEqDiff, Nat.reduceBEq, Nat.reduceLeDiff, Int.reduceToNat, Int.reduceLT, Int.reduceLE, Int.reduceEq, reduceCtorEq, ↓reduceIte, X46_1, k46_1, b1, b2, b20, w26, b28]
        · replace h := br_t b28 h
          try simp -implicitDefEqProofs only [go_sem, Nat.reduceLT, Nat.reduceAdd, Nat.reduceSub, Nat.reduceMul, Nat.reduceEqDiff, Nat.reduceBEq, Nat.reduceLeDiff, Int.reduceToNat, Int.reduceLT, Int.reduceLE, Int.reduceEq, reduceCtorEq, ↓reduceIte, X46_1, k46_1, b1, b2, b20, w26, b28]
          cases b29 : (ltI 5 (↑a0.acts.length : Int) : Bool)
          · replace h := br_f b29 h
            obtain ⟨r32, q30, h⟩ := bnd_some h
            have w31 := e75 a0.verdict 0 2 r32 q30
            try simp -implicitDefEqProofs only [go_sem, Nat.reduceLT, Nat.reduceAdd, Nat.reduceSub, Nat.reduceMul, Nat.reduceEqDiff, Nat.reduceBEq, Nat.reduceLeDiff, Int.reduceToNat, Int.reduceLT, Int.reduceLE, Int.reduceEq, reduceCtorEq, ↓reduceIte] at w31
            cases h
            simp -implicitDefEqProofs only [go_sem, Nat.reduceLT, Nat.reduceAdd, Nat.reduceSub, Nat.reduceMul, Nat.reduceEqDiff, Nat.reduceBEq, Nat.reduceLeDiff, Int.reduceToNat, Int.reduceLT, Int.reduceLE, Int.reduceEq, reduceCtorEq, ↓reduceIte, X46_1, k46_1, b1, b2, b20, w26, b28, b29, w31]
          · replace h := br_t b29 h
            cases h
            simp -implicitDefEqProofs only [go_sem, Nat.reduceLT, Nat.reduceAdd, Nat.reduceSub, Nat.reduceMul, Nat.reduceEqDiff, Nat.reduceBEq, Nat.reduceLeDiff, Int.reduceToNat, Int.reduceLT, Int.reduceLE, Int.reduceEq, reduceCtorEq, ↓reduceIte, X46_1, k46_1, b1, b2, b20, w26, b28, b29]
      · replace h := br_t b20 h
        try simp -implicitDefEqProofs only [go_sem, Nat.reduceLT, Nat.reduceAdd, Nat.reduceSub, Nat.reduceMul, Nat.reduceEqDiff, Nat.reduceBEq, Nat.reduceLeDiff, Int.reduceToNat, Int.reduceLT, Int.reduceLE, Int.reduceEq, reduceCtorEq, ↓reduceIte, X46_1, k46_1, b1, b2, b20]
        cases b21 : (ltI 5 (↑a0.acts.length : Int) : Bool)
        · replace h := br_f b21 h
          obtain ⟨r24, q22, h⟩ := bnd_some h
          have w23 := e75 a0.verdict 0 2 r24 q22
          try simp -implicitDefEqProofs only [go_sem, Nat.reduceLT, Nat.reduceAdd, Nat.reduceSub, Nat.reduceMul, Nat.reduceEqDiff, Nat.reduceBEq, Nat.reduceLeDiff, Int.reduceToNat, Int.reduceLT, Int.reduceLE, Int.reduceEq, reduceCtorEq, ↓reduceIte] at w23
          cases h
          simp -implicitDefEqProofs only [go_sem, Nat.reduceLT, Nat.reduceAdd, Nat.reduceSub, Nat.reduceMul, Nat.reduceEqDiff, Nat.reduceBEq, Nat.reduceLeDiff, Int.reduceToNat, Int.reduceLT, Int.reduceLE, Int.reduceEq, reduceCtorEq, ↓reduceIte, X46_1, k46_1, b1, b2, b20, b21, w23]
        · replace h := br_t b21 h
          cases h
          simp -implicitDefEqProofs only [go_sem, Nat.reduceLT, Nat.reduceAdd, Nat.reduceSub, Nat.reduceMul, Nat.reduceEqDiff, Nat.reduceBEq, Nat.reduceLeDiff, Int.reduceToNat, Int.reduceLT, Int.reduceLE, Int.reduceEq, reduceCtorEq, ↓reduceIte, X46_1, k46_1, b1, b2, b20, b21]
    · replace h := br_t b2 h
      obtain ⟨r5, q3, h⟩ := bnd_some h
      have w4 := e84 a0.path r5 q3
      try simp -implicitDefEqProofs only [go_sem, Nat.reduceLT, Nat.reduceAdd, Nat.reduceSub, Nat.reduceMul, Nat.reduceEqDiff, Nat.reduceBEq, Nat.reduceLeDiff, Int.reduceToNat, Int.reduceLT, Int.reduceLE, Int.reduceEq, reduceCtorEq, ↓reduceIte] at w4
      try simp -implicitDefEqProofs only [go_sem, Nat.reduceLT, Nat.reduceAdd, Nat.reduceSub, Nat.reduceMul, Nat.reduceEqDiff, Nat.reduceBEq, Nat.reduceLeDiff, Int.reduceToNat, Int.reduceLT, Int.reduceLE, Int.reduceEq, reduceCtorEq, ↓reduceIte, X46_1, k46_1, b1, b2, w4]
      cases b6 : (r5 : Bool)
      · replace h := br_f b6 h
        cases h
        simp -implicitDefEqProofs only [go_sem, Nat.reduceLT, Nat.reduceAdd, Nat.reduceSub, Nat.reduceMul, Nat.reduceEqDiff, Nat.reduceBEq, Nat.reduceLeDiff, Int.reduceToNat, Int.reduceLT, Int.reduceLE, Int.reduceEq, reduceCtorEq, ↓reduceIte, X46_1, k46_1, b1, b2, w4, b6]
      · replace h := br_t b6 h
        try simp -implicitDefEqProofs only [go_sem, Nat.reduceLT, Nat.reduceAdd, Nat.reduceSub, Nat.reduceMul, Nat.reduceEqDiff, Nat.reduceBEq, Nat.reduceLeDiff, Int.reduceToNat, Int.reduceLT, Int.reduceLE, Int.reduceEq, reduceCtorEq, ↓reduceIte, X46_1, k46_1, b1, b2, w4, b6]
        cases b7 : (eqI a0.comm (-1) : Bool)
        · replace h := br_f b7 h
          obtain ⟨r14, q12, h⟩ := bnd_some h
          have w13 := e79 a0.comm r14 q12
          try simp -implicitDefEqProofs only [go_sem, Nat.reduceLT, Nat.reduceAdd, Nat.reduceSub, Nat.reduceMul, Nat.reduceEqDiff, Nat.reduceBEq, Nat.reduceLeDiff, Int.reduceToNat, Int.reduceLT, Int.reduceLE, Int.reduceEq, reduceCtorEq, ↓reduceIte] at w13
          try simp -implicitDefEqProofs only [go_sem, Nat.reduceLT, Nat.reduceAdd, Nat.reduceSub, Nat.reduceMul, Nat.reduceEqDiff, Nat.reduceBEq, Nat.reduceLeDiff, Int.reduceToNat, Int.reduceLT, Int.reduceLE, Int.reduceEq, reduceCtorEq, ↓reduceIte, X46_1, k46_1, b1, b2, w4, b6, b7, w13]
          cases b15 : (r14 : Bool)
          · replace h := br_f b15 h
            cases h
            simp -implicitDefEqProofs only [go_sem, Nat.reduceLT, Nat.reduceAdd, Nat.reduceSub, Nat.reduceMul, Nat.reduceEqDiff, Nat.reduceBEq, Nat.reduceLeDiff, Int.reduceToNat, Int.reduceLT, Int.reduceLE, Int.reduceEq, reduceCtorEq, ↓reduceIte, X46_1, k46_1, b1, b2, w4, b6, b7, w13, b15]
          · replace h := br_t b15 h
            try simp -implicitDefEqProofs only [go_sem, Nat.reduceLT, Nat.reduceAdd, Nat.reduceSub, Nat.reduceMul, Nat.reduceEqDiff, Nat.reduceBEq, Nat.reduceLeDiff, Int.reduceToNat, Int.reduceLT, Int.reduceLE, Int.reduceEq, reduceCtorEq, ↓reduceIte, X46_1, k46_1, b1, b2, w4, b6, b7, w13, b15]
            cases b16 : (ltI 5 (↑a0.acts.length : Int) : Bool)
            · replace h := br_f b16 h
              obtain ⟨r19, q17, h⟩ := bnd_some h
              have w18 := e75 a0.verdict 0 2 r19 q17
              try simp -implicitDefEqProofs only [go_sem, Nat.reduceLT, Nat.reduceAdd, Nat.reduceSub, Nat.reduceMul, Nat.reduceEqDiff, Nat.reduceBEq, Nat.reduceLeDiff, Int.reduceToNat, Int.reduceLT, Int.reduceLE, Int.reduceEq, reduceCtorEq, ↓reduceIte] at w18
              cases h
              simp -implicitDefEqProofs only [go_sem, Nat.reduceLT, Nat.reduceAdd, Nat.reduceSub, Nat.reduceMul, Nat.reduceEqDiff, Nat.reduceBEq, Nat.reduceLeDiff, Int.reduceToNat, Int.reduceLT, Int.reduceLE, Int.reduceEq, reduceCtorEq, ↓reduceIte, X46_1, k46_1, b1, b2, w4, b6, b7, w13, b15, b16, w18]
            · replace h := br_t b16 h
              cases h
              simp -implicitDefEqProofs only [go_sem, Nat.reduceLT, Nat.reduceAdd, Nat.reduceSub, Nat.reduceMul, Nat.reduceEqDiff, Nat.reduceBEq, Nat.reduceLeDiff, Int.reduceToNat, Int.reduceLT, Int.reduceLE, Int.reduceEq, reduceCtorEq, ↓reduceIte, X46_1, k46_1, b1, b2, w4, b6, b7, w13, b15, b16]
        · replace h := br_t b7 h
          try simp -implicitDefEqProofs only [go_sem, Nat.reduceLT, Nat.reduceAdd, Nat.reduceSub, Nat.reduceMul, Nat.reduceEqDiff, Nat.reduceBEq, Nat.reduceLeDiff, Int.reduceToNat, Int.reduceLT, Int.reduceLE, Int.reduceEq, reduceCtorEq, ↓reduceIte, X46_1, k46_1, b1, b2, w4, b6, b7]
          cases b8 : (ltI 5 (↑a0.acts.length : Int) : Bool)
          · replace h := br_f b8 h
            obtain ⟨r11, q9, h⟩ := bnd_some h
            have w10 := e75 a0.verdict 0 2 r11 q9
            try simp -implicitDefEqProofs only [go_sem, Nat.reduceLT, Nat.reduceAdd, Nat.reduceSub, Nat.reduceMul, Nat.reduceEqDiff, Nat.reduceBEq, Nat.reduceLeDiff, Int.reduceToNat, Int.reduceLT, Int.reduceLE, Int.reduceEq, reduceCtorEq, ↓reduceIte] at w10
            cases h
            simp -implicitDefEqProofs only [go_sem, Nat.reduceLT, Nat.reduceAdd, Nat.reduceSub, Nat.reduceMul, Nat.reduceEqDiff, Nat.reduceBEq, Nat.reduceLeDiff, Int.reduceToNat, Int.reduceLT, Int.reduceLE, Int.reduceEq, reduceCtorEq, ↓reduceIte, X46_1, k46_1, b1, b2, w4, b6, b7, b8, w10]
          · replace h := br_t b8 h
            cases h
            simp -implicitDefEqProofs only [go_sem, Nat.reduceLT, Nat.reduceAdd, Nat.reduceSub, Nat.reduceMul, Nat.reduceEqDiff, Nat.reduceBEq, Nat.reduceLeDiff, Int.reduceToNat, Int.reduceLT, Int.reduceLE, Int.reduceEq, reduceCtorEq, ↓reduceIte, X46_1, k46_1, b1, b2, w4, b6, b7, b8]
  · replace h := br_t b1 h
    cases h
    simp -implicitDefEqProofs only [go_sem, Nat.reduceLT, Nat.reduceAdd, Nat.reduceSub, Nat.reduceMul, Nat.reduceEqDiff, Nat.reduceBEq, Nat.reduceLeDiff, Int.reduceToNat, Int.reduceLT, Int.reduceLE, Int.reduceEq, reduceCtorEq, ↓reduceIte, X46_1, k46_1, b1]
noncomputable def X46_2 (a0 : Term) (o : Bool) : Ex × Fr × St :=
  (.normal, frOf 52 (upd anyF 2 (.bool o)), [])
theorem e46_2 (a0 : Term) (o : Bool) (h : m46_2 a0 = some o) : evCL T 0 k46_2 (frOf 52 (upd anyF 1 (.ptr 0 0 0))) [some ⟨.box, 5, [[.ts .imm 4 (a0.ranges.map encRange), .ts .imm 2 (a0.path.map encReCell), .int .i64 a0.comm, .ts .imm 2 (a0.acts.map encAcn), .int .i64 a0.verdict]]⟩] = some (X46_2 a0 o) := by
  unfold m46_2 at h
  obtain ⟨r39, q37, h⟩ := bnd_some h
  have w38 := e85 a0.ranges (fun y0 => m86 y0) 86 [] ⟨⟨fun S => by simp -implicitDefEqProofs only [go_sem, Nat.reduceLT, Nat.reduceAdd, Nat.reduceSub, Nat.reduceMul, Nat.reduceEqDiff, Nat.reduceBEq, Nat.reduceLeDiff, Int.reduceToNat, Int.reduceLT, Int.reduceLE, Int.reduceEq, reduceCtorEq, ↓reduceIte], fun _ _ _ _ _ _ => by simp -implicitDefEqProofs only [go_sem, Nat.reduceLT, Nat.reduceAdd, Nat.reduceSub, Nat.reduceMul, Nat.reduceEqDiff, Nat.reduceBEq, Nat.reduceLeDiff, Int.reduceToNat, Int.reduceLT, Int.reduceLE, Int.reduceEq, reduceCtorEq, ↓reduceIte]⟩, fun y0 r h => ⟨fun S => by simp -implicitDefEqProofs only [go_sem, Nat.reduceLT, Nat.reduceAdd, Nat.reduceSub, Nat.reduceMul, Nat.reduceEqDiff, Nat.reduceBEq, Nat.reduceLeDiff, Int.reduceToNat, Int.reduceLT, Int.reduceLE, Int.reduceEq, reduceCtorEq, ↓reduceIte, e86 y0 r h], fun S => by simp -implicitDefEqProofs only [go_sem, Nat.reduceLT, Nat.reduceAdd, Nat.reduceSub, Nat.reduceMul, Nat.reduceEqDiff, Nat.reduceBEq, Nat.reduceLeDiff, Int.reduceToNat, Int.reduceLT, Int.reduceLE, Int.reduceEq, reduceCtorEq, ↓reduceIte, e86 y0 r h]⟩⟩ r39 q37
  try simp -implicitDefEqProofs only [go_sem, Nat.reduceLT, Nat.reduceAdd, Nat.reduceSub, Nat.reduceMul, Nat.reduceEqDiff, Nat.reduceBEq, Nat.reduceLeDiff, Int.reduceToNat, Int.reduceLT, Int.reduceLE, Int.reduceEq, reduceCtorEq, ↓reduceIte] at w38
  try simp -implicitDefEqProofs only [go_sem, Nat.reduceLT, Nat.reduceAdd, Nat.reduceSub, Nat.reduceMul, Nat.reduceEqDiff, Nat.reduceBEq, Nat.reduceLeDiff, Int.reduceToNat, Int.reduceLT, Int.reduceLE, Int.reduceEq, reduceCtorEq, ↓reduceIte, X46_2, k46_2, w38]
  cases b40 : (r39 : Bool)
  · replace h := br_f b40 h
    obtain ⟨r43, q41, h⟩ := bnd_some h
    have w42 := e87 a0.acts (fun y0 => m88 y0) 88 [] ⟨⟨fun S => by simp -implicitDefEqProofs only [go_sem, Nat.reduceLT, Nat.reduceAdd, Nat.reduceSub, Nat.reduceMul, Nat.reduceEqDiff, Nat.reduceBEq, Nat.reduceLeDiff, Int.reduceToNat, Int.reduceLT, Int.reduceLE, Int.reduceEq, reduceCtorEq, ↓reduceIte], fun _ _ _ _ _ _ => by simp -implicitDefEqProofs only [go_sem, Nat.reduceLT, Nat.reduceAdd, Nat.reduceSub, Nat.reduceMul, Nat.reduceEqDiff, Nat.reduceBEq, Nat.reduceLeDiff, Int.reduceToNat, Int.reduceLT, Int.reduceLE, Int.reduceEq, reduceCtorEq, ↓reduceIte]⟩, fun y0 r h => ⟨fun S => by simp -implicitDefEqProofs only [go_sem, Nat.reduceLT, Nat.reduceAdd, Nat.reduceSub, Nat.reduceMul, Nat.reduceEqDiff, Nat.reduceBEq, Nat.reduceLeDiff, Int.reduceToNat, Int.reduceLT, Int.reduceLE, Int.reduceEq, reduceCtorEq, ↓reduceIte, e88 y0 r h], fun S => by simp -implicitDefEqProofs only [go_sem, Nat.reduceLT, Nat.reduceAdd, Nat.reduceSub, Nat.reduceMul, Nat.reduceEqDiff, Nat.reduceBEq, Nat.reduceLeDiff, Int.reduceToNat, Int.reduceLT, Int.reduceLE, Int.reduceEq, reduceCtorEq, ↓reduceIte, e88 y0 r h]⟩⟩ r43 q41
    try simp -implicitDefEqProofs only [go_sem, Nat.reduceLT, Nat.reduceAdd, Nat.reduceSub, Nat.reduceMul, Nat.reduceEqDiff, Nat.reduceBEq, Nat.reduceLeDiff, Int.reduceToNat, Int.reduceLT, Int.reduceLE, Int.reduceEq, reduceCtorEq, ↓reduceIte] at w42
    cases h
    simp -implicitDefEqProofs only [go_sem, Nat.reduceLT, Nat.reduceAdd, Nat.reduceSub, Nat.reduceMul, Nat.reduceEqDiff, Nat.reduceBEq, Nat.reduceLeDiff, Int.reduceToNat, Int.reduceLT, Int.reduceLE, Int.reduceEq, reduceCtorEq, ↓reduceIte, X46_2, k46_2, w38, b40, w42]
  · replace h := br_t b40 h
    cases h
    simp -implicitDefEqProofs only [go_sem, Nat.reduceLT, Nat.reduceAdd, Nat.reduceSub, Nat.reduceMul, Nat.reduceEqDiff, Nat.reduceBEq, Nat.reduceLeDiff, Int.reduceToNat, Int.reduceLT, Int.reduceLE, Int.reduceEq, reduceCtorEq, ↓reduceIte, X46_2, k46_2, w38, b40]
theorem e46 (a0 : Term) (r : Bool) (h : m46 a0 = some r) : evFL T 46 [.agg [.ts .imm 4 (a0.ranges.map encRange), .ts .imm 2 (a0.path.map encReCell), .int .i64 a0.comm, .ts .imm 2 (a0.acts.map encAcn), .int .i64 a0.verdict]] [] = some (.bool r, []) := by
  unfold m46 at h
  rw [evFL_at fn46 (Nat.le_of_ble_eq_true rfl) rfl (.inr rfl)]
  obtain ⟨v35, q33, h⟩ := bnd_some h
  have w34 := e46_1 a0 v35 q33
  simp only [X46_1] at w34
  try simp -implicitDefEqProofs only [go_sem, Nat.reduceLT, Nat.reduceAdd, Nat.reduceSub, Nat.reduceMul, Nat.reduceEqDiff, Nat.reduceBEq, Nat.reduceLeDiff, Int.reduceToNat, Int.reduceLT, Int.reduceLE, Int.reduceEq, reduceCtorEq, ↓reduceIte] at w34
  try simp -implicitDefEqProofs only [go_sem, Nat.reduceLT, Nat.reduceAdd, Nat.reduceSub, Nat.reduceMul, Nat.reduceEqDiff, Nat.reduceBEq, Nat.reduceLeDiff, Int.reduceToNat, Int.reduceLT, Int.reduceLE, Int.reduceEq, reduceCtorEq, ↓reduceIte, i46, c46, w34]
  cases b36 : (v35 : Bool)
  · replace h := br_f b36 h
    obtain ⟨v46, q44, h⟩ := bnd_some h
    have w45 := e46_2 a0 v46 q44
    simp only [X46_2] at w45
    try simp -implicitDefEqProofs only [go_sem, Nat.reduceLT, Nat.reduceAdd, Nat.reduceSub, Nat.reduceMul, Nat.reduceEqDiff, Nat.reduceBEq, Nat.reduceLeDiff, Int.reduceToNat, Int.reduceLT, Int.reduceLE, Int.reduceEq, reduceCtorEq, ↓reduceIte] at w45
    cases h
    simp -implicitDefEqProofs only [go_sem, Nat.reduceLT, Nat.reduceAdd, Nat.reduceSub, Nat.reduceMul, Nat.reduceEqDiff, Nat.reduceBEq, Nat.reduceLeDiff, Int.reduceToNat, Int.reduceLT, Int.reduceLE, Int.reduceEq, reduceCtorEq, ↓reduceIte, i46, c46, w34, b36, w45]
  · replace h := br_t b36 h
    cases h
    simp -implicitDefEqProofs only [go_sem, Nat.reduceLT, Nat.reduceAdd, Nat.reduceSub, Nat.reduceMul, Nat.reduceEqDiff, Nat.reduceBEq, Nat.reduceLeDiff, Int.reduceToNat, Int.reduceLT, Int.reduceLE, Int.reduceEq, reduceCtorEq, ↓reduceIte, i46, c46, w34, b36]
-- f45 impl.GoodPolicy$1
theorem call45 (args : List AV) (S : St) : evCall T (evFL T) 45 args S = lendC (evFL T 45) S (lendAll S [[4, 2, 0, 2, 0]] args) := evCall0 fn45 rfl rfl args S
theorem callz45 (args : List AV) (S : St) : evCallFz T (evFL T) 45 args S = lendZ (evFL T 45) S [[0]] (lendAll S [[4, 2, 0, 2, 0]] args) := evCallFz0 fn45 rfl rfl args S
attribute [go_sem] call45 callz45
theorem e45 (a0 : Term) (r : Bool) (h : m45 a0 = some r) : evFL T 45 [.agg [.ts .imm 4 (a0.ranges.map encRange), .ts .imm 2 (a0.path.map encReCell), .int .i64 a0.comm, .ts .imm 2 (a0.acts.map encAcn), .int .i64 a0.verdict]] [] = some (.bool r, []) := by
  unfold m45 at h
  rw [evFL_at fn45 (Nat.le_of_ble_eq_true rfl) rfl (.inr rfl)]
  obtain ⟨r3, q1, h⟩ := bnd_some h
  have w2 := e46 a0 r3 q1
  try simp -implicitDefEqProofs only [go_sem, Nat.reduceLT, Nat.reduceAdd, Nat.reduceSub, Nat.reduceMul, Nat.reduceEqDiff, Nat.reduceBEq, Nat.reduceLeDiff, Int.reduceToNat, Int.reduceLT, Int.reduceLE, Int.reduceEq, reduceCtorEq, ↓reduceIte] at w2
  cases h
  simp -implicitDefEqProofs only [go_sem, Nat.reduceLT, Nat.reduceAdd, Nat.reduceSub, Nat.reduceMul, Nat.reduceEqDiff, Nat.reduceBEq, Nat.reduceLeDiff, Int.reduceToNat, Int.reduceLT, Int.reduceLE, Int.reduceEq, reduceCtorEq, ↓reduceIte, i45, c45, w2]
-- f16 impl.GoodPolicy
theorem call16 (args : List AV) (S : St) : evCall T (evFL T) 16 args S = lendC (evFL T 16) S (lendAll S [[5, 0]] args) := evCall0 fn16 rfl rfl args S
theorem callz16 (args : List AV) (S : St) : evCallFz T (evFL T) 16 args S = lendZ (evFL T 16) S [[0]] (lendAll S [[5, 0]] args) := evCallFz0 fn16 rfl rfl args S
attribute [go_sem] call16 callz16
noncomputable def X16_1 (a0 : Policy) (o : Bool) : Ex × Fr × St :=
  (.normal, frOf 13 (upd anyF 2 (.bool o)), [])
theorem e16_1 (a0 : Policy) (o : Bool) (h : m16_1 a0 = some o) : evCL T 0 k16_1 (frOf 13 (upd anyF 1 (.ptr 0 0 0))) [some ⟨.box, 2, [[.ts .imm 5 (a0.terms.map (encTerm .imm)), .bool a0.accept]]⟩] = some (X16_1 a0 o) := by
  unfold m16_1 at h
  try simp -implicitDefEqProofs only [go_sem, Nat.reduceLT, Nat.reduceAdd, Nat.reduceSub, Nat.reduceMul, Nat.reduceEqDiff, Nat.reduceBEq, Nat.reduceLeDiff, Int.reduceToNat, Int.reduceLT, Int.reduceLE, Int.reduceEq, reduceCtorEq, ↓reduceIte, X16_1, k16_1]
  cases b1 : (leI (↑a0.terms.length : Int) 8 : Bool)
  · replace h := br_f b1 h
    cases h
    simp -implicitDefEqProofs only [go_sem, Nat.reduceLT, Nat.reduceAdd, Nat.reduceSub, Nat.reduceMul, Nat.reduceEqDiff, Nat.reduceBEq, Nat.reduceLeDiff, Int.reduceToNat, Int.reduceLT, Int.reduceLE, Int.reduceEq, reduceCtorEq, ↓reduceIte, X16_1, k16_1, b1]
  · replace h := br_t b1 h
    obtain ⟨r4, q2, h⟩ := bnd_some h
    have w3 := e44 a0.terms (fun y0 => m45 y0) 45 [] ⟨⟨fun S => by simp -implicitDefEqProofs only [go_sem, Nat.reduceLT, Nat.reduceAdd, Nat.reduceSub, Nat.reduceMul, Nat.reduceEqDiff, Nat.reduceBEq, Nat.reduceLeDiff, Int.reduceToNat, Int.reduceLT, Int.reduceLE, Int.reduceEq, reduceCtorEq, ↓reduceIte], fun _ _ _ _ _ _ => by simp -implicitDefEqProofs only [go_sem, Nat.reduceLT, Nat.reduceAdd, Nat.reduceSub, Nat.reduceMul, Nat.reduceEqDiff, Nat.reduceBEq, Nat.reduceLeDiff, Int.reduceToNat, Int.reduceLT, Int.reduceLE, Int.reduceEq, reduceCtorEq, ↓reduceIte]⟩, fun y0 r h => ⟨fun S => by simp -implicitDefEqProofs only [go_sem, Nat.reduceLT, Nat.reduceAdd, Nat.reduceSub, Nat.reduceMul, Nat.reduceEqDiff, Nat.reduceBEq, Nat.reduceLeDiff, Int.reduceToNat, Int.reduceLT, Int.reduceLE, Int.reduceEq, reduceCtorEq, ↓reduceIte, e45 y0 r h], fun S => by simp -implicitDefEqProofs only [go_sem, Nat.reduceLT, Nat.reduceAdd, Nat.reduceSub, Nat.reduceMul, Nat.reduceEqDiff, Nat.reduceBEq, Nat.reduceLeDiff, Int.reduceToNat, Int.reduceLT, Int.reduceLE, Int.reduceEq, reduceCtorEq, ↓reduceIte, e45 y0 r h]⟩⟩ r4 q2
    try simp -implicitDefEqProofs only [go_sem, Nat.reduceLT, Nat.reduceAdd, Nat.reduceSub, Nat.reduceMul, Nat.reduceEqDiff, Nat.reduceBEq, Nat.reduceLeDiff, Int.reduceToNat, Int.reduceLT, Int.reduceLE, Int.reduceEq, reduceCtorEq, ↓reduceIte] at w3
    cases h
    simp -implicitDefEqProofs only [go_sem, Nat.reduceLT, Nat.reduceAdd, Nat.reduceSub, Nat.reduceMul, Nat.reduceEqDiff, Nat.reduceBEq, Nat.reduceLeDiff, Int.reduceToNat, Int.reduceLT, Int.reduceLE, Int.reduceEq, reduceCtorEq, ↓reduceIte, X16_1, k16_1, b1, w3]
theorem e16 (a0 : Policy) (r : Bool) (h : m16 a0 = some r) : evFL T 16 [.agg [.ts .imm 5 (a0.terms.map (encTerm .imm)), .bool a0.accept]] [] = some (.bool r, []) := by
  unfold m16 at h
  rw [evFL_at fn16 (Nat.le_of_ble_eq_true rfl) rfl (.inr rfl)]
  obtain ⟨v7, q5, h⟩ := bnd_some h
  have w6 := e16_1 a0 v7 q5
  simp only [X16_1] at w6
  try simp -implicitDefEqProofs only [go_sem, Nat.reduceLT, Nat.reduceAdd, Nat.reduceSub, Nat.reduceMul, Nat.reduceEqDiff, Nat.reduceBEq, Nat.reduceLeDiff, Int.reduceToNat, Int.reduceLT, Int.reduceLE, Int.reduceEq, reduceCtorEq, ↓reduceIte] at w6
  cases h
  simp -implicitDefEqProofs only [go_sem, Nat.reduceLT, Nat.reduceAdd, Nat.reduceSub, Nat.reduceMul, Nat.reduceEqDiff, Nat.reduceBEq, Nat.reduceLeDiff, Int.reduceToNat, Int.reduceLT, Int.reduceLE, Int.reduceEq, reduceCtorEq, ↓reduceIte, i16, c16, w6]
-- f39 laws.eqPrefix
theorem call39 (args : List AV) (S : St) : evCall T (evFL T) 39 args S = lendC (evFL T 39) S (lendAll S [[0, 0], [0, 0]] args) := evCall0 fn39 rfl rfl args S
theorem callz39 (args : List AV) (S : St) : evCallFz T (evFL T) 39 args S = lendZ (evFL T 39) S [[0]] (lendAll S [[0, 0], [0, 0]] args) := evCallFz0 fn39 rfl rfl args S
attribute [go_sem] call39 callz39
theorem e39 (a0 : Prefix) (a1 : Prefix) (r : Bool) (h : m39 a0 a1 = some r) : evFL T 39 [.agg [.int .i64 a0.addr, .int .i64 a0.len], .agg [.int .i64 a1.addr, .int .i64 a1.len]] [] = some (.bool r, []) := by
  unfold m39 at h
  rw [evFL_at fn39 (Nat.le_of_ble_eq_true rfl) rfl (.inr rfl)]
  try simp -implicitDefEqProofs only [go_sem, Nat.reduceLT, Nat.reduceAdd, Nat.reduceSub, Nat.reduceMul, Nat.reduceEqDiff, Nat.reduceBEq, Nat.reduceLeDiff, Int.reduceToNat, Int.reduceLT, Int.reduceLE, Int.reduceEq, reduceCtorEq, ↓reduceIte, i39, c39]
  cases b1 : (eqI a0.addr a1.addr : Bool)
  · replace h := br_f b1 h
    cases h
    simp -implicitDefEqProofs only [go_sem, Nat.reduceLT, Nat.reduceAdd, Nat.reduceSub, Nat.reduceMul, Nat.reduceEqDiff, Nat.reduceBEq, Nat.reduceLeDiff, Int.reduceToNat, Int.reduceLT, Int.reduceLE, Int.reduceEq, reduceCtorEq, ↓reduceIte, i39, c39, b1]
  · replace h := br_t b1 h
    try simp -implicitDefEqProofs only [go_sem, Nat.reduceLT, Nat.reduceAdd, Nat.reduceSub, Nat.reduceMul, Nat.reduceEqDiff, Nat.reduceBEq, Nat.reduceLeDiff, Int.reduceToNat, Int.reduceLT, Int.reduceLE, Int.reduceEq, reduceCtorEq, ↓reduceIte, i39, c39, b1]
    cases b2 : (eqI a0.len a1.len : Bool)
    · replace h := br_f b2 h
      cases h
      simp -implicitDefEqProofs only [go_sem, Nat.reduceLT, Nat.reduceAdd, Nat.reduceSub, Nat.reduceMul, Nat.reduceEqDiff, Nat.reduceBEq, Nat.reduceLeDiff, Int.reduceToNat, Int.reduceLT, Int.reduceLE, Int.reduceEq, reduceCtorEq, ↓reduceIte, i39, c39, b1, b2]
    · replace h := br_t b2 h
      cases h
      simp -implicitDefEqProofs only [go_sem, Nat.reduceLT, Nat.reduceAdd, Nat.reduceSub, Nat.reduceMul, Nat.reduceEqDiff, Nat.reduceBEq, Nat.reduceLeDiff, Int.reduceToNat, Int.reduceLT, Int.reduceLE, Int.reduceEq, reduceCtorEq, ↓reduceIte, i39, c39, b1, b2]
-- f117 laws.eqRange
theorem call117 (args : List AV) (S : St) : evCall T (evFL T) 117 args S = lendC (evFL T 117) S (lendAll S [[0, 0, 0, 0], [0, 0, 0, 0]] args) := evCall0 fn117 rfl rfl args S
theorem callz117 (args : List AV) (S : St) : evCallFz T (evFL T) 117 args S = lendZ (evFL T 117) S [[0]] (lendAll S [[0, 0, 0, 0], [0, 0, 0, 0]] args) := evCallFz0 fn117 rfl rfl args S
attribute [go_sem] call117 callz117
theorem e117 (a0 : Range) (a1 : Range) (r : Bool) (h : m117 a0 a1 = some r) : evFL T 117 [.agg [.int .i64 a0.prefix_.addr, .int .i64 a0.prefix_.len, .int .i64 a0.lo, .int .i64 a0.hi], .agg [.int .i64 a1.prefix_.addr, .int .i64 a1.prefix_.len, .int .i64 a1.lo, .int .i64 a1.hi]] [] = some (.bool r, []) := by
  unfold m117 at h
  rw [evFL_at fn117 (Nat.le_of_ble_eq_true rfl) rfl (.inr rfl)]
  obtain ⟨r3, q1, h⟩ := bnd_some h
  have w2 := e39 a0.prefix_ a1.prefix_ r3 q1
  try simp -implicitDefEqProofs only [go_sem, Nat.reduceLT, Nat.reduceAdd, Nat.reduceSub, Nat.reduceMul, Nat.reduceEqDiff, Nat.reduceBEq, Nat.reduceLeDiff, Int.reduceToNat, Int.reduceLT, Int.reduceLE, Int.reduceEq, reduceCtorEq, ↓reduceIte] at w2
  try simp -implicitDefEqProofs only [go_sem, Nat.reduceLT, Nat.reduceAdd, Nat.reduceSub, Nat.reduceMul, Nat.reduceEqDiff, Nat.reduceBEq, Nat.reduceLeDiff, Int.reduceToNat, Int.reduceLT, Int.reduceLE, Int.reduceEq, reduceCtorEq, ↓reduceIte, i117, c117, w2]
  cases b4 : (r3 : Bool)
  · replace h := br_f b4 h
    cases h
    simp -implicitDefEqProofs only [go_sem, Nat.reduceLT, Nat.reduceAdd, Nat.reduceSub, Nat.reduceMul, Nat.reduceEqDiff, Nat.reduceBEq, Nat.reduceLeDiff, Int.reduceToNat, Int.reduceLT, Int.reduceLE, Int.reduceEq, reduceCtorEq, ↓reduceIte, i117, c117, w2, b4]
  · replace h := br_t b4 h
    try simp -implicitDefEqProofs only [go_sem, Nat.reduceLT, Nat.reduceAdd, Nat.reduceSub, Nat.reduceMul, Nat.reduceEqDiff, Nat.reduceBEq, Nat.reduceLeDiff, Int.reduceToNat, Int.reduceLT, Int.reduceLE, Int.reduceEq, reduceCtorEq, ↓reduceIte, i117, c117, w2, b4]
    cases b5 : (eqI a0.lo a1.lo : Bool)
    · replace h := br_f b5 h
      cases h
      simp -implicitDefEqProofs only [go_sem, Nat.reduceLT, Nat.reduceAdd, Nat.reduceSub, Nat.reduceMul, Nat.reduceEqDiff, Nat.reduceBEq, Nat.reduceLeDiff, Int.reduceToNat, Int.reduceLT, Int.reduceLE, Int.reduceEq, reduceCtorEq, ↓reduceIte, i117, c117, w2, b4, b5]
    · replace h := br_t b5 h
      try simp -implicitDefEqProofs only [go_sem, Nat.reduceLT, Nat.reduceAdd, Nat.reduceSub, Nat.reduceMul, Nat.reduceEqDiff, Nat.reduceBEq, Nat.reduceLeDiff, Int.reduceToNat, Int.reduceLT, Int.reduceLE, Int.reduceEq, reduceCtorEq, ↓reduceIte, i117, c117, w2, b4, b5]
      cases b6 : (eqI a0.hi a1.hi : Bool)
      · replace h := br_f b6 h
        cases h
        simp -implicitDefEqProofs only [go_sem, Nat.reduceLT, Nat.reduceAdd, Nat.reduceSub, Nat.reduceMul, Nat.reduceEqDiff, Nat.reduceBEq, Nat.reduceLeDiff, Int.reduceToNat, Int.reduceLT, Int.reduceLE, Int.reduceEq, reduceCtorEq, ↓reduceIte, i117, c117, w2, b4, b5, b6]
      · replace h := br_t b6 h
        cases h
        simp -implicitDefEqProofs only [go_sem, Nat.reduceLT, Nat.reduceAdd, Nat.reduceSub, Nat.reduceMul, Nat.reduceEqDiff, Nat.reduceBEq, Nat.reduceLeDiff, Int.reduceToNat, Int.reduceLT, Int.reduceLE, Int.reduceEq, reduceCtorEq, ↓reduceIte, i117, c117, w2, b4, b5, b6]
-- f67 laws.eqRangeS
theorem call67 (args : List AV) (S : St) : evCall T (evFL T) 67 args S = lendC (evFL T 67) S (lendAll S [[4], [4]] args) := evCall0 fn67 rfl rfl args S
theorem callz67 (args : List AV) (S : St) : evCallFz T (evFL T) 67 args S = lendZ (evFL T 67) S [[0]] (lendAll S [[4], [4]] args) := evCallFz0 fn67 rfl rfl args S
attribute [go_sem] call67 callz67
noncomputable def X67_1 (a0 : (List Range)) (a1 : (List Range)) (o : (Unit ⊕ Unit)) : Ex × Fr × St :=
  match o with
  | .inl o => (.exit 0, frOf 27 (anyF), [])
  | .inr o => (.ret, frOf 27 (upd anyF 4 (.bool false)), [])
noncomputable def E67_1 (a0 : (List Range)) (a1 : (List Range)) (s : Int) : Fr × St := (frOf 27 (upd (upd (upd anyF 0 (.ts .imm 4 (a0.map encRange))) 1 (.ts .imm 4 (a1.map encRange))) 5 (.int .i64 s)), [])
theorem b67_1 (a0 : (List Range)) (a1 : (List Range)) (s : Int) (o : Ctl Int (Unit ⊕ Unit)) (h : m67_1b a0 a1 s = some o) : evCL T 0 k67_1b (E67_1 a0 a1 s).1 (E67_1 a0 a1 s).2 = some (ctlX (E67_1 a0 a1) (X67_1 a0 a1) o) := by
  unfold m67_1b at h
  revert h
  generalize s = s17
  intro h
  try simp -implicitDefEqProofs only [go_sem, Nat.reduceLT, Nat.reduceAdd, Nat.reduceSub, Nat.reduceMul, Nat.reduceEqDiff, Nat.reduceBEq, Nat.reduceLeDiff, Int.reduceToNat, Int.reduceLT, Int.reduceLE, Int.reduceEq, reduceCtorEq, ↓reduceIte, E67_1, X67_1, k67_1b]
  cases b18 : (ltI s17 (↑a0.length : Int) : Bool)
  · replace h := br_f b18 h
    cases h
    simp -implicitDefEqProofs only [go_sem, Nat.reduceLT, Nat.reduceAdd, Nat.reduceSub, Nat.reduceMul, Nat.reduceEqDiff, Nat.reduceBEq, Nat.reduceLeDiff, Int.reduceToNat, Int.reduceLT, Int.reduceLE, Int.reduceEq, reduceCtorEq, ↓reduceIte, E67_1, X67_1, k67_1b, b18]
  · replace h := br_t b18 h
    obtain ⟨x19, q20, h⟩ := bnd_some h
    obtain ⟨g21, g22, g23⟩ := idx_row encRange q20
    try simp -implicitDefEqProofs only [go_sem, Nat.reduceLT, Nat.reduceAdd, Nat.reduceSub, Nat.reduceMul, Nat.reduceEqDiff, Nat.reduceBEq, Nat.reduceLeDiff, Int.reduceToNat, Int.reduceLT, Int.reduceLE, Int.reduceEq, reduceCtorEq, ↓reduceIte] at g22
    try simp -implicitDefEqProofs only [go_sem, Nat.reduceLT, Nat.reduceAdd, Nat.reduceSub, Nat.reduceMul, Nat.reduceEqDiff, Nat.reduceBEq, Nat.reduceLeDiff, Int.reduceToNat, Int.reduceLT, Int.reduceLE, Int.reduceEq, reduceCtorEq, ↓reduceIte] at g23
    obtain ⟨x24, q25, h⟩ := bnd_some h
    obtain ⟨g26, g27, g28⟩ := idx_row encRange q25
    try simp -implicitDefEqProofs only [go_sem, Nat.reduceLT, Nat.reduceAdd, Nat.reduceSub, Nat.reduceMul, Nat.reduceEqDiff, Nat.reduceBEq, Nat.reduceLeDiff, Int.reduceToNat, Int.reduceLT, Int.reduceLE, Int.reduceEq, reduceCtorEq, ↓reduceIte] at g27
    try simp -implicitDefEqProofs only [go_sem, Nat.reduceLT, Nat.reduceAdd, Nat.reduceSub, Nat.reduceMul, Nat.reduceEqDiff, Nat.reduceBEq, Nat.reduceLeDiff, Int.reduceToNat, Int.reduceLT, Int.reduceLE, Int.reduceEq, reduceCtorEq, ↓reduceIte] at g28
    obtain ⟨r31, q29, h⟩ := bnd_some h
    have w30 := e117 x19 x24 r31 q29
    try simp -implicitDefEqProofs only [go_sem, Nat.reduceLT, Nat.reduceAdd, Nat.reduceSub, Nat.reduceMul, Nat.reduceEqDiff, Nat.reduceBEq, Nat.reduceLeDiff, Int.reduceToNat, Int.reduceLT, Int.reduceLE, Int.reduceEq, reduceCtorEq, ↓reduceIte] at w30
    try simp -implicitDefEqProofs only [go_sem, Nat.reduceLT, Nat.reduceAdd, Nat.reduceSub, Nat.reduceMul, Nat.reduceEqDiff, Nat.reduceBEq, Nat.reduceLeDiff, Int.reduceToNat, Int.reduceLT, Int.reduceLE, Int.reduceEq, reduceCtorEq, ↓reduceIte, E67_1, X67_1, k67_1b, b18, g21, g22, g23, g26, g27, g28, w30]
    cases b32 : (r31 : Bool)
    · replace h := br_f b32 h
      cases h
      simp -implicitDefEqProofs only [go_sem, Nat.reduceLT, Nat.reduceAdd, Nat.reduceSub, Nat.reduceMul, Nat.reduceEqDiff, Nat.reduceBEq, Nat.reduceLeDiff, Int.reduceToNat, Int.reduceLT, Int.reduceLE, Int.reduceEq, reduceCtorEq, ↓reduceIte, E67_1, X67_1, k67_1b, b18, g21, g22, g23, g26, g27, g28, w30, b32]
    · replace h := br_t b32 h
      cases h
      simp -implicitDefEqProofs only [go_sem, Nat.reduceLT, Nat.reduceAdd, Nat.reduceSub, Nat.reduceMul, Nat.reduceEqDiff, Nat.reduceBEq, Nat.reduceLeDiff, Int.reduceToNat, Int.reduceLT, Int.reduceLE, Int.reduceEq, reduceCtorEq, ↓reduceIte, E67_1, X67_1, k67_1b, b18, g21, g22, g23, g26, g27, g28, w30, b32]
theorem e67_1 (a0 : (List Range)) (a1 : (List Range)) (s : Int) (o : (Unit ⊕ Unit)) (h : loopP (m67_1b a0 a1) s = some o) : evCL T 0 (.loop k67_1b) (E67_1 a0 a1 s).1 (E67_1 a0 a1 s).2 = some (X67_1 a0 a1 o) :=
  loop_walk (E := E67_1 a0 a1) (X := X67_1 a0 a1) (by intro b; rcases b with b | b <;> (simp only [X67_1]; nofun)) (b67_1 a0 a1) s o h
theorem e67 (a0 : (List Range)) (a1 : (List Range)) (r : Bool) (h : m67 a0 a1 = some r) : evFL T 67 [.ts .imm 4 (a0.map encRange), .ts .imm 4 (a1.map encRange)] [] = some (.bool r, []) := by
  unfold m67 at h
  rw [evFL_at fn67 (Nat.le_of_ble_eq_true rfl) rfl (.inr rfl)]
  try simp -implicitDefEqProofs only [go_sem, Nat.reduceLT, Nat.reduceAdd, Nat.reduceSub, Nat.reduceMul, Nat.reduceEqDiff, Nat.reduceBEq, Nat.reduceLeDiff, Int.reduceToNat, Int.reduceLT, Int.reduceLE, Int.reduceEq, reduceCtorEq, ↓reduceIte, i67, c67]
  cases b1 : (eqI (↑a0.length : Int) (↑a1.length : Int) : Bool)
  · replace h := br_f b1 h
    cases h
    simp -implicitDefEqProofs only [go_sem, Nat.reduceLT, Nat.reduceAdd, Nat.reduceSub, Nat.reduceMul, Nat.reduceEqDiff, Nat.reduceBEq, Nat.reduceLeDiff, Int.reduceToNat, Int.reduceLT, Int.reduceLE, Int.reduceEq, reduceCtorEq, ↓reduceIte, i67, c67, b1]
  · replace h := br_t b1 h
    try simp -implicitDefEqProofs only [go_sem, Nat.reduceLT, Nat.reduceAdd, Nat.reduceSub, Nat.reduceMul, Nat.reduceEqDiff, Nat.reduceBEq, Nat.reduceLeDiff, Int.reduceToNat, Int.reduceLT, Int.reduceLE, Int.reduceEq, reduceCtorEq, ↓reduceIte, i67, c67, b1]
    obtain ⟨o, q33, h⟩ := bnd_some h
    rcases o with ⟨⟩ | ⟨⟩
    · replace h := selS_l h
      have w34 := e67_1 a0 a1 0 (.inl ()) q33
      simp only [E67_1, X67_1] at w34
      try simp -implicitDefEqProofs only [go_sem, Nat.reduceLT, Nat.reduceAdd, Nat.reduceSub, Nat.reduceMul, Nat.reduceEqDiff, Nat.reduceBEq, Nat.reduceLeDiff, Int.reduceToNat, Int.reduceLT, Int.reduceLE, Int.reduceEq, reduceCtorEq, ↓reduceIte] at w34
      cases h
      simp -implicitDefEqProofs only [go_sem, Nat.reduceLT, Nat.reduceAdd, Nat.reduceSub, Nat.reduceMul, Nat.reduceEqDiff, Nat.reduceBEq, Nat.reduceLeDiff, Int.reduceToNat, Int.reduceLT, Int.reduceLE, Int.reduceEq, reduceCtorEq, ↓reduceIte, i67, c67, b1, w34]
    · replace h := selS_r h
      have w34 := e67_1 a0 a1 0 (.inr ()) q33
      simp only [E67_1, X67_1] at w34
      try simp -implicitDefEqProofs only [go_sem, Nat.reduceLT, Nat.reduceAdd, Nat.reduceSub, Nat.reduceMul, Nat.reduceEqDiff, Nat.reduceBEq, Nat.reduceLeDiff, Int.reduceToNat, Int.reduceLT, Int.reduceLE, Int.reduceEq, reduceCtorEq, ↓reduceIte] at w34
      cases h
      simp -implicitDefEqProofs only [go_sem, Nat.reduceLT, Nat.reduceAdd, Nat.reduceSub, Nat.reduceMul, Nat.reduceEqDiff, Nat.reduceBEq, Nat.reduceLeDiff, Int.reduceToNat, Int.reduceLT, Int.reduceLE, Int.reduceEq, reduceCtorEq, ↓reduceIte, i67, c67, b1, w34]
-- f118 laws.eqReCell
theorem call118 (args : List AV) (S : St) : evCall T (evFL T) 118 args S = lendC (evFL T 118) S (lendAll S [[0, 0], [0, 0]] args) := evCall0 fn118 rfl rfl args S
theorem callz118 (args : List AV) (S : St) : evCallFz T (evFL T) 118 args S = lendZ (evFL T 118) S [[0]] (lendAll S [[0, 0], [0, 0]] args) := evCallFz0 fn118 rfl rfl args S
attribute [go_sem] call118 callz118
theorem e118 (a0 : ReCell) (a1 : ReCell) (r : Bool) (h : m118 a0 a1 = some r) : evFL T 118 [.agg [.int .i64 a0.kind, .int .i64 a0.n], .agg [.int .i64 a1.kind, .int .i64 a1.n]] [] = some (.bool r, []) := by
  unfold m118 at h
  rw [evFL_at fn118 (Nat.le_of_ble_eq_true rfl) rfl (.inr rfl)]
  try simp -implicitDefEqProofs only [go_sem, Nat.reduceLT, Nat.reduceAdd, Nat.reduceSub, Nat.reduceMul, Nat.reduceEqDiff, Nat.reduceBEq, Nat.reduceLeDiff, Int.reduceToNat, Int.reduceLT, Int.reduceLE, Int.reduceEq, reduceCtorEq, ↓reduceIte, i118, c118]
  cases b1 : (eqI a0.kind a1.kind : Bool)
  · replace h := br_f b1 h
    cases h
    simp -implicitDefEqProofs only [go_sem, Nat.reduceLT, Nat.reduceAdd, Nat.reduceSub, Nat.reduceMul, Nat.reduceEqDiff, Nat.reduceBEq, Nat.reduceLeDiff, Int.reduceToNat, Int.reduceLT, Int.reduceLE, Int.reduceEq, reduceCtorEq, ↓reduceIte, i118, c118, b1]
  · replace h := br_t b1 h
    try simp -implicitDefEqProofs only [go_sem, Nat.reduceLT, Nat.reduceAdd, Nat.reduceSub, Nat.reduceMul, Nat.reduceEqDiff, Nat.reduceBEq, Nat.reduceLeDiff, Int.reduceToNat, Int.reduceLT, Int.reduceLE, Int.reduceEq, reduceCtorEq, ↓reduceIte, i118, c118, b1]
    cases b2 : (eqI a0.n a1.n : Bool)
    · replace h := br_f b2 h
      cases h
      simp -implicitDefEqProofs only [go_sem, Nat.reduceLT, Nat.reduceAdd, Nat.reduceSub, Nat.reduceMul, Nat.reduceEqDiff, Nat.reduceBEq, Nat.reduceLeDiff, Int.reduceToNat, Int.reduceLT, Int.reduceLE, Int.reduceEq, reduceCtorEq, ↓reduceIte, i118, c118, b1, b2]
    · replace h := br_t b2 h
      cases h
      simp -implicitDefEqProofs only [go_sem, Nat.reduceLT, Nat.reduceAdd, Nat.reduceSub, Nat.reduceMul, Nat.reduceEqDiff, Nat.reduceBEq, Nat.reduceLeDiff, Int.reduceToNat, Int.reduceLT, Int.reduceLE, Int.reduceEq, reduceCtorEq, ↓reduceIte, i118, c118, b1, b2]
-- f68 laws.eqReCellS
theorem call68 (args : List AV) (S : St) : evCall T (evFL T) 68 args S = lendC (evFL T 68) S (lendAll S [[2], [2]] args) := evCall0 fn68 rfl rfl args S
theorem callz68 (args : List AV) (S : St) : evCallFz T (evFL T) 68 args S = lendZ (evFL T 68) S [[0]] (lendAll S [[2], [2]] args) := evCallFz0 fn68 rfl rfl args S
attribute [go_sem] call68 callz68
noncomputable def X68_1 (a0 : (List ReCell)) (a1 : (List ReCell)) (o : (Unit ⊕ Unit)) : Ex × Fr × St :=
  match o with
  | .inl o => (.exit 0, frOf 27 (anyF), [])
  | .inr o => (.ret, frOf 27 (upd anyF 4 (.bool false)), [])
noncomputable def E68_1 (a0 : (List ReCell)) (a1 : (List ReCell)) (s : Int) : Fr × St := (frOf 27 (upd (upd (upd anyF 0 (.ts .imm 2 (a0.map encReCell))) 1 (.ts .imm 2 (a1.map encReCell))) 5 (.int .i64 s)), [])
theorem b68_1 (a0 : (List ReCell)) (a1 : (List ReCell)) (s : Int) (o : Ctl Int (Unit ⊕ Unit)) (h : m68_1b a0 a1 s = some o) : evCL T 0 k68_1b (E68_1 a0 a1 s).1 (E68_1 a0 a1 s).2 = some (ctlX (E68_1 a0 a1) (X68_1 a0 a1) o) := by
  unfold m68_1b at h
  revert h
  generalize s = s17
  intro h
  try simp -implicitDefEqProofs only [go_sem, Nat.reduceLT, Nat.reduceAdd, Nat.reduceSub, Nat.reduceMul, Nat.reduceEqDiff, Nat.reduceBEq, Nat.reduceLeDiff, Int.reduceToNat, Int.reduceLT, Int.reduceLE, Int.reduceEq, reduceCtorEq, ↓reduceIte, E68_1, X68_1, k68_1b]
  cases b18 : (ltI s17 (↑a0.length : Int) : Bool)
  · replace h := br_f b18 h
    cases h
    simp -implicitDefEqProofs only [go_sem, Nat.reduceLT, Nat.reduceAdd, Nat.reduceSub, Nat.reduceMul, Nat.reduceEqDiff, Nat.reduceBEq, Nat.reduceLeDiff, Int.reduceToNat, Int.reduceLT, Int.reduceLE, Int.reduceEq, reduceCtorEq, ↓reduceIte, E68_1, X68_1, k68_1b, b18]
  · replace h := br_t b18 h
    obtain ⟨x19, q20, h⟩ := bnd_some h
    obtain ⟨g21, g22, g23⟩ := idx_row encReCell q20
    try simp -implicitDefEqProofs only [go_sem, Nat.reduceLT, Nat.reduceAdd, Nat.reduceSub, Nat.reduceMul, Nat.reduceEqDiff, Nat.reduceBEq, Nat.reduceLeDiff, Int.reduceToNat, Int.reduceLT, Int.reduceLE, Int.reduceEq, reduceCtorEq, ↓reduceIte] at g22
    try simp -implicitDefEqProofs only [go_sem, Nat.reduceLT, Nat.reduceAdd, Nat.reduceSub, Nat.reduceMul, Nat.reduceEqDiff, Nat.reduceBEq, Nat.reduceLeDiff, Int.reduceToNat, Int.reduceLT, Int.reduceLE, Int.reduceEq, reduceCtorEq, ↓reduceIte] at g23
    obtain ⟨x24, q25, h⟩ := bnd_some h
    obtain ⟨g26, g27, g28⟩ := idx_row encReCell q25
    try simp -implicitDefEqProofs only [go_sem, Nat.reduceLT, Nat.reduceAdd, Nat.reduceSub, Nat.reduceMul, Nat.reduceEqDiff, Nat.reduceBEq, Nat.reduceLeDiff, Int.reduceToNat, Int.reduceLT, Int.reduceLE, Int.reduceEq, reduceCtorEq, ↓reduceIte] at g27
    try simp -implicitDefEqProofs only [go_sem, Nat.reduceLT, Nat.reduceAdd, Nat.reduceSub, Nat.reduceMul, Nat.reduceEqDiff, Nat.reduceBEq, Nat.reduceLeDiff, Int.reduceToNat, Int.reduceLT, Int.reduceLE, Int.reduceEq, reduceCtorEq, ↓reduceIte] at g28
    obtain ⟨r31, q29, h⟩ := bnd_some h
    have w30 := e118 x19 x24 r31 q29
    try simp -implicitDefEqProofs only [go_sem, Nat.reduceLT, Nat.reduceAdd, Nat.reduceSub, Nat.reduceMul, Nat.reduceEqDiff, Nat.reduceBEq, Nat.reduceLeDiff, Int.reduceToNat, Int.reduceLT, Int.reduceLE, Int.reduceEq, reduceCtorEq, ↓reduceIte] at w30
    try simp -implicitDefEqProofs only [go_sem, Nat.reduceLT, Nat.reduceAdd, Nat.reduceSub, Nat.reduceMul, Nat.reduceEqDiff, Nat.reduceBEq, Nat.reduceLeDiff, Int.reduceToNat, Int.reduceLT, Int.reduceLE, Int.reduceEq, reduceCtorEq, ↓reduceIte, E68_1, X68_1, k68_1b, b18, g21, g22, g23, g26, g27, g28, w30]
    cases b32 : (r31 : Bool)
    · replace h := br_f b32 h
      cases h
      simp -implicitDefEqProofs only [go_sem, Nat.reduceLT, Nat.reduceAdd, Nat.reduceSub, Nat.reduceMul, Nat.reduceEqDiff, Nat.reduceBEq, Nat.reduceLeDiff, Int.reduceToNat, Int.reduceLT, Int.reduceLE, Int.reduceEq, reduceCtorEq, ↓reduceIte, E68_1, X68_1, k68_1b, b18, g21, g22, g23, g26, g27, g28, w30, b32]
    · replace h := br_t b32 h
      cases h
      simp -implicitDefEqProofs only [go_sem, Nat.reduceLT, Nat.reduceAdd, Nat.reduceSub, Nat.reduceMul, Nat.reduceEqDiff, Nat.reduceBEq, Nat.reduceLeDiff, Int.reduceToNat, Int.reduceLT, Int.reduceLE, Int.reduceEq, reduceCtorEq, ↓reduceIte, E68_1, X68_1, k68_1b, b18, g21, g22, g23, g26, g27, g28, w30, b32]
theorem e68_1 (a0 : (List ReCell)) (a1 : (List ReCell)) (s : Int) (o : (Unit ⊕ Unit)) (h : loopP (m68_1b a0 a1) s = some o) : evCL T 0 (.loop k68_1b) (E68_1 a0 a1 s).1 (E68_1 a0 a1 s).2 = some (X68_1 a0 a1 o) :=
  loop_walk (E := E68_1 a0 a1) (X := X68_1 a0 a1) (by intro b; rcases b with b | b <;> (simp only [X68_1]; nofun)) (b68_1 a0 a1) s o h
theorem e68 (a0 : (List ReCell)) (a1 : (List ReCell)) (r : Bool) (h : m68 a0 a1 = some r) : evFL T 68 [.ts .imm 2 (a0.map encReCell), .ts .imm 2 (a1.map encReCell)] [] = some (.bool r, []) := by
  unfold m68 at h
  rw [evFL_at fn68 (Nat.le_of_ble_eq_true rfl) rfl (.inr rfl)]
  try simp -implicitDefEqProofs only [go_sem, Nat.reduceLT, Nat.reduceAdd, Nat.reduceSub, Nat.reduceMul, Nat.reduceEqDiff, Nat.reduceBEq, Nat.reduceLeDiff, Int.reduceToNat, Int.reduceLT, Int.reduceLE, Int.reduceEq, reduceCtorEq, ↓reduceIte, i68, c68]
  cases b1 : (eqI (↑a0.length : Int) (↑a1.length : Int) : Bool)
  · replace h := br_f b1 h
    cases h
    simp -implicitDefEqProofs only [go_sem, Nat.reduceLT, Nat.reduceAdd, Nat.reduceSub, Nat.reduceMul, Nat.reduceEqDiff, Nat.reduceBEq, Nat.reduceLeDiff, Int.reduceToNat, Int.reduceLT, Int.reduceLE, Int.reduceEq, reduceCtorEq, ↓reduceIte, i68, c68, b1]
  · replace h := br_t b1 h
    try simp -implicitDefEqProofs only [go_sem, Nat.reduceLT, Nat.reduceAdd, Nat.reduceSub, Nat.reduceMul, Nat.reduceEqDiff, Nat.reduceBEq, Nat.reduceLeDiff, Int.reduceToNat, Int.reduceLT, Int.reduceLE, Int.reduceEq, reduceCtorEq, ↓reduceIte, i68, c68, b1]
    obtain ⟨o, q33, h⟩ := bnd_some h
    rcases o with ⟨⟩ | ⟨⟩
    · replace h := selS_l h
      have w34 := e68_1 a0 a1 0 (.inl ()) q33
      simp only [E68_1, X68_1] at w34
      try simp -implicitDefEqProofs only [go_sem, Nat.reduceLT, Nat.reduceAdd, Nat.reduceSub, Nat.reduceMul, Nat.reduceEqDiff, Nat.reduceBEq, Nat.reduceLeDiff, Int.reduceToNat, Int.reduceLT, Int.reduceLE, Int.reduceEq, reduceCtorEq, ↓reduceIte] at w34
      cases h
      simp -implicitDefEqProofs only [go_sem, Nat.reduceLT, Nat.reduceAdd, Nat.reduceSub, Nat.reduceMul, Nat.reduceEqDiff, Nat.reduceBEq, Nat.reduceLeDiff, Int.reduceToNat, Int.reduceLT, Int.reduceLE, Int.reduceEq, reduceCtorEq, ↓reduceIte, i68, c68, b1, w34]
    · replace h := selS_r h
      have w34 := e68_1 a0 a1 0 (.inr ()) q33
      simp only [E68_1, X68_1] at w34
      try simp -implicitDefEqProofs only [go_sem, Nat.reduceLT, Nat.reduceAdd, Nat.reduceSub, Nat.reduceMul, Nat.reduceEqDiff, Nat.reduceBEq, Nat.reduceLeDiff, Int.reduceToNat, Int.reduceLT, Int.reduceLE, Int.reduceEq, reduceCtorEq, ↓reduceIte] at w34
      cases h
      simp -implicitDefEqProofs only [go_sem, Nat.reduceLT, Nat.reduceAdd, Nat.reduceSub, Nat.reduceMul, Nat.reduceEqDiff, Nat.reduceBEq, Nat.reduceLeDiff, Int.reduceToNat, Int.reduceLT, Int.reduceLE, Int.reduceEq, reduceCtorEq, ↓reduceIte, i68, c68, b1, w34]
-- f119 laws.eqAct
theorem call119 (args : List AV) (S : St) : evCall T (evFL T) 119 args S = lendC (evFL T 119) S (lendAll S [[0, 0], [0, 0]] args) := evCall0 fn119 rfl rfl args S
theorem callz119 (args : List AV) (S : St) : evCallFz T (evFL T) 119 args S = lendZ (evFL T 119) S [[0]] (lendAll S [[0, 0], [0, 0]] args) := evCallFz0 fn119 rfl rfl args S
attribute [go_sem] call119 callz119
theorem e119 (a0 : Acn) (a1 : Acn) (r : Bool) (h : m119 a0 a1 = some r) : evFL T 119 [.agg [.int .i64 a0.kind, .int .i64 a0.n], .agg [.int .i64 a1.kind, .int .i64 a1.n]] [] = some (.bool r, []) := by
  unfold m119 at h
  rw [evFL_at fn119 (Nat.le_of_ble_eq_true rfl) rfl (.inr rfl)]
  try simp -implicitDefEqProofs only [go_sem, Nat.reduceLT, Nat.reduceAdd, Nat.reduceSub, Nat.reduceMul, Nat.reduceEqDiff, Nat.reduceBEq, Nat.reduceLeDiff, Int.reduceToNat, Int.reduceLT, Int.reduceLE, Int.reduceEq, reduceCtorEq, ↓reduceIte, i119, c119]
  cases b1 : (eqI a0.kind a1.kind : Bool)
  · replace h := br_f b1 h
    cases h
    simp -implicitDefEqProofs only [go_sem, Nat.reduceLT, Nat.reduceAdd, Nat.reduceSub, Nat.reduceMul, Nat.reduceEqDiff, Nat.reduceBEq, Nat.reduceLeDiff, Int.reduceToNat, Int.reduceLT, Int.reduceLE, Int.reduceEq, reduceCtorEq, ↓reduceIte, i119, c119, b1]
  · replace h := br_t b1 h
    try simp -implicitDefEqProofs only [go_sem, Nat.reduceLT, Nat.reduceAdd, Nat.reduceSub, Nat.reduceMul, Nat.reduceEqDiff, Nat.reduceBEq, Nat.reduceLeDiff, Int.reduceToNat, Int.reduceLT, Int.reduceLE, Int.reduceEq, reduceCtorEq, ↓reduceIte, i119, c119, b1]
    cases b2 : (eqI a0.n a1.n : Bool)
    · replace h := br_f b2 h
      cases h
      simp -implicitDefEqProofs only [go_sem, Nat.reduceLT, Nat.reduceAdd, Nat.reduceSub, Nat.reduceMul, Nat.reduceEqDiff, Nat.reduceBEq, Nat.reduceLeDiff, Int.reduceToNat, Int.reduceLT, Int.reduceLE, Int.reduceEq, reduceCtorEq, ↓reduceIte, i119, c119, b1, b2]
    · replace h := br_t b2 h
      cases h
      simp -implicitDefEqProofs only [go_sem, Nat.reduceLT, Nat.reduceAdd, Nat.reduceSub, Nat.reduceMul, Nat.reduceEqDiff, Nat.reduceBEq, Nat.reduceLeDiff, Int.reduceToNat, Int.reduceLT, Int.reduceLE, Int.reduceEq, reduceCtorEq, ↓reduceIte, i119, c119, b1, b2]
-- f69 laws.eqActS
theorem call69 (args : List AV) (S : St) : evCall T (evFL T) 69 args S = lendC (evFL T 69) S (lendAll S [[2], [2]] args) := evCall0 fn69 rfl rfl args S
theorem callz69 (args : List AV) (S : St) : evCallFz T (evFL T) 69 args S = lendZ (evFL T 69) S [[0]] (lendAll S [[2], [2]] args) := evCallFz0 fn69 rfl rfl args S
attribute [go_sem] call69 callz69
noncomputable def X69_1 (a0 : (List Acn)) (a1 : (List Acn)) (o : (Unit ⊕ Unit)) : Ex × Fr × St :=
  match o with
  | .inl o => (.exit 0, frOf 27 (anyF), [])
  | .inr o => (.ret, frOf 27 (upd anyF 4 (.bool false)), [])
noncomputable def E69_1 (a0 : (List Acn)) (a1 : (List Acn)) (s : Int) : Fr × St := (frOf 27 (upd (upd (upd anyF 0 (.ts .imm 2 (a0.map encAcn))) 1 (.ts .imm 2 (a1.map encAcn))) 5 (.int .i64 s)), [])
theorem b69_1 (a0 : (List Acn)) (a1 : (List Acn)) (s : Int) (o : Ctl Int (Unit ⊕ Unit)) (h : m69_1b a0 a1 s = some o) : evCL T 0 k69_1b (E69_1 a0 a1 s).1 (E69_1 a0 a1 s).2 = some (ctlX (E69_1 a0 a1) (X69_1 a0 a1) o) := by
  unfold m69_1b at h
  revert h
  generalize s = s17
  intro h
  try simp -implicitDefEqProofs only [go_sem, Nat.reduceLT, Nat.reduceAdd, Nat.reduceSub, Nat.reduceMul, Nat.reduceEqDiff, Nat.reduceBEq, Nat.reduceLeDiff, Int.reduceToNat, Int.reduceLT, Int.reduceLE, Int.reduceEq, reduceCtorEq, ↓reduceIte, E69_1, X69_1, k69_1b]
  cases b18 : (ltI s17 (↑a0.length : Int) : Bool)
  · replace h := br_f b18 h
    cases h
    simp -implicitDefEqProofs only [go_sem, Nat.reduceLT, Nat.reduceAdd, Nat.reduceSub, Nat.reduceMul, Nat.reduceEqDiff, Nat.reduceBEq, Nat.reduceLeDiff, Int.reduceToNat, Int.reduceLT, Int.reduceLE, Int.reduceEq, reduceCtorEq, ↓reduceIte, E69_1, X69_1, k69_1b, b18]
  · replace h := br_t b18 h
    obtain ⟨x19, q20, h⟩ := bnd_some h
    obtain ⟨g21, g22, g23⟩ := idx_row encAcn q20
    try simp -implicitDefEqProofs only [go_sem, Nat.reduceLT, Nat.reduceAdd, Nat.reduceSub, Nat.reduceMul, Nat.reduceEqDiff, Nat.reduceBEq, Nat.reduceLeDiff, Int.reduceToNat, Int.reduceLT, Int.reduceLE, Int.reduceEq, reduceCtorEq, ↓reduceIte] at g22
    try simp -implicitDefEqProofs only [go_sem, Nat.reduceLT, Nat.reduceAdd, Nat.reduceSub, Nat.reduceMul, Nat.reduceEqDiff, Nat.reduceBEq, Nat.reduceLeDiff, Int.reduceToNat, Int.reduceLT, Int.reduceLE, Int.reduceEq, reduceCtorEq, ↓reduceIte] at g23
    obtain ⟨x24, q25, h⟩ := bnd_some h
    obtain ⟨g26, g27, g28⟩ := idx_row encAcn q25
    try simp -implicitDefEqProofs only [go_sem, Nat.reduceLT, Nat.reduceAdd, Nat.reduceSub, Nat.reduceMul, Nat.reduceEqDiff, Nat.reduceBEq, Nat.reduceLeDiff, Int.reduceToNat, Int.reduceLT, Int.reduceLE, Int.reduceEq, reduceCtorEq, ↓reduceIte] at g27
    try simp -implicitDefEqProofs only [go_sem, Nat.reduceLT, Nat.reduceAdd, Nat.reduceSub, Nat.reduceMul, Nat.reduceEqDiff, Nat.reduceBEq, Nat.reduceLeDiff, Int.reduceToNat, Int.reduceLT, Int.reduceLE, Int.reduceEq, reduceCtorEq, ↓reduceIte] at g28
    obtain ⟨r31, q29, h⟩ := bnd_some h
    have w30 := e119 x19 x24 r31 q29
    try simp -implicitDefEqProofs only [go_sem, Nat.reduceLT, Nat.reduceAdd, Nat.reduceSub, Nat.reduceMul, Nat.reduceEqDiff, Nat.reduceBEq, Nat.reduceLeDiff, Int.reduceToNat, Int.reduceLT, Int.reduceLE, Int.reduceEq, reduceCtorEq, ↓reduceIte] at w30
    try simp -implicitDefEqProofs only [go_sem, Nat.reduceLT, Nat.reduceAdd, Nat.reduceSub, Nat.reduceMul, Nat.reduceEqDiff, Nat.reduceBEq, Nat.reduceLeDiff, Int.reduceToNat, Int.reduceLT, Int.reduceLE, Int.reduceEq, reduceCtorEq, ↓reduceIte, E69_1, X69_1, k69_1b, b18, g21, g22, g23, g26, g27, g28, w30]
    cases b32 : (r31 : Bool)
    · replace h := br_f b32 h
      cases h
      simp -implicitDefEqProofs only [go_sem, Nat.reduceLT, Nat.reduceAdd, Nat.reduceSub, Nat.reduceMul, Nat.reduceEqDiff, Nat.reduceBEq, Nat.reduceLeDiff, Int.reduceToNat, Int.reduceLT, Int.reduceLE, Int.reduceEq, reduceCtorEq, ↓reduceIte, E69_1, X69_1, k69_1b, b18, g21, g22, g23, g26, g27, g28, w30, b32]
    · replace h := br_t b32 h
      cases h
      simp -implicitDefEqProofs only [go_sem, Nat.reduceLT, Nat.reduceAdd, Nat.reduceSub, Nat.reduceMul, Nat.reduceEqDiff, Nat.reduceBEq, Nat.reduceLeDiff, Int.reduceToNat, Int.reduceLT, Int.reduceLE, Int.reduceEq, reduceCtorEq, ↓reduceIte, E69_1, X69_1, k69_1b, b18, g21, g22, g23, g26, g27, g28, w30, b32]
theorem e69_1 (a0 : (List Acn)) (a1 : (List Acn)) (s : Int) (o : (Unit ⊕ Unit)) (h : loopP (m69_1b a0 a1) s = some o) : evCL T 0 (.loop k69_1b) (E69_1 a0 a1 s).1 (E69_1 a0 a1 s).2 = some (X69_1 a0 a1 o) :=
  loop_walk (E := E69_1 a0 a1) (X := X69_1 a0 a1) (by intro b; rcases b with b | b <;> (simp only [X69_1]; nofun)) (b69_1 a0 a1) s o h
theorem e69 (a0 : (List Acn)) (a1 : (List Acn)) (r : Bool) (h : m69 a0 a1 = some r) : evFL T 69 [.ts .imm 2 (a0.map encAcn), .ts .imm 2 (a1.map encAcn)] [] = some (.bool r, []) := by
  unfold m69 at h
  rw [evFL_at fn69 (Nat.le_of_ble_eq_true rfl) rfl (.inr rfl)]
  try simp -implicitDefEqProofs only [go_sem, Nat.reduceLT, Nat.reduceAdd, Nat.reduceSub, Nat.reduceMul, Nat.reduceEqDiff, Nat.reduceBEq, Nat.reduceLeDiff, Int.reduceToNat, Int.reduceLT, Int.reduceLE, Int.reduceEq, reduceCtorEq, ↓reduceIte, i69, c69]
  cases b1 : (eqI (↑a0.length : Int) (↑a1.length : Int) : Bool)
  · replace h := br_f b1 h
    cases h
    simp -implicitDefEqProofs only [go_sem, Nat.reduceLT, Nat.reduceAdd, Nat.reduceSub, Nat.reduceMul, Nat.reduceEqDiff, Nat.reduceBEq, Nat.reduceLeDiff, Int.reduceToNat, Int.reduceLT, Int.reduceLE, Int.reduceEq, reduceCtorEq, ↓reduceIte, i69, c69, b1]
  · replace h := br_t b1 h
    try simp -implicitDefEqProofs only [go_sem, Nat.reduceLT, Nat.reduceAdd, Nat.reduceSub, Nat.reduceMul, Nat.reduceEqDiff, Nat.reduceBEq, Nat.reduceLeDiff, Int.reduceToNat, Int.reduceLT, Int.reduceLE, Int.reduceEq, reduceCtorEq, ↓reduceIte, i69, c69, b1]
    obtain ⟨o, q33, h⟩ := bnd_some h
    rcases o with ⟨⟩ | ⟨⟩
    · replace h := selS_l h
      have w34 := e69_1 a0 a1 0 (.inl ()) q33
      simp only [E69_1, X69_1] at w34
      try simp -implicitDefEqProofs only [go_sem, Nat.reduceLT, Nat.reduceAdd, Nat.reduceSub, Nat.reduceMul, Nat.reduceEqDiff, Nat.reduceBEq, Nat.reduceLeDiff, Int.reduceToNat, Int.reduceLT, Int.reduceLE, Int.reduceEq, reduceCtorEq, ↓reduceIte] at w34
      cases h
      simp -implicitDefEqProofs only [go_sem, Nat.reduceLT, Nat.reduceAdd, Nat.reduceSub, Nat.reduceMul, Nat.reduceEqDiff, Nat.reduceBEq, Nat.reduceLeDiff, Int.reduceToNat, Int.reduceLT, Int.reduceLE, Int.reduceEq, reduceCtorEq, ↓reduceIte, i69, c69, b1, w34]
    · replace h := selS_r h
      have w34 := e69_1 a0 a1 0 (.inr ()) q33
      simp only [E69_1, X69_1] at w34
      try simp -implicitDefEqProofs only [go_sem, Nat.reduceLT, Nat.reduceAdd, Nat.reduceSub, Nat.reduceMul, Nat.reduceEqDiff, Nat.reduceBEq, Nat.reduceLeDiff, Int.reduceToNat, Int.reduceLT, Int.reduceLE, Int.reduceEq, reduceCtorEq, ↓reduceIte] at w34
      cases h
      simp -implicitDefEqProofs only [go_sem, Nat.reduceLT, Nat.reduceAdd, Nat.reduceSub, Nat.reduceMul, Nat.reduceEqDiff, Nat.reduceBEq, Nat.reduceLeDiff, Int.reduceToNat, Int.reduceLT, Int.reduceLE, Int.reduceEq, reduceCtorEq, ↓reduceIte, i69, c69, b1, w34]
-- f31 laws.eqTerm
theorem call31 (args : List AV) (S : St) : evCall T (evFL T) 31 args S = lendC (evFL T 31) S (lendAll S [[4, 2, 0, 2, 0], [4, 2, 0, 2, 0]] args) := evCall0 fn31 rfl rfl args S
theorem callz31 (args : List AV) (S : St) : evCallFz T (evFL T) 31 args S = lendZ (evFL T 31) S [[0]] (lendAll S [[4, 2, 0, 2, 0], [4, 2, 0, 2, 0]] args) := evCallFz0 fn31 rfl rfl args S
attribute [go_sem] call31 callz31
theorem e31 (a0 : Term) (a1 : Term) (r : Bool) (h : m31 a0 a1 = some r) : evFL T 31 [.agg [.ts .imm 4 (a0.ranges.map encRange), .ts .imm 2 (a0.path.map encReCell), .int .i64 a0.comm, .ts .imm 2 (a0.acts.map encAcn), .int .i64 a0.verdict], .agg [.ts .imm 4 (a1.ranges.map encRange), .ts .imm 2 (a1.path.map encReCell), .int .i64 a1.comm, .ts .imm 2 (a1.acts.map encAcn), .int .i64 a1.verdict]] [] = some (.bool r, []) := by
  unfold m31 at h
  rw [evFL_at fn31 (Nat.le_of_ble_eq_true rfl) rfl (.inr rfl)]
  obtain ⟨r3, q1, h⟩ := bnd_some h
  have w2 := e67 a0.ranges a1.ranges r3 q1
  try simp -implicitDefEqProofs only [go_sem, Nat.reduceLT, Nat.reduceAdd, Nat.reduceSub, Nat.reduceMul, Nat.reduceEqDiff, Nat.reduceBEq, Nat.reduceLeDiff, Int.reduceToNat, Int.reduceLT, Int.reduceLE, Int.reduceEq, reduceCtorEq, ↓reduceIte] at w2
  try simp -implicitDefEqProofs only [go_sem, Nat.reduceLT, Nat.reduceAdd, Nat.reduceSub, Nat.reduceMul, Nat.reduceEqDiff, Nat.reduceBEq, Nat.reduceLeDiff, Int.reduceToNat, Int.reduceLT, Int.reduceLE, Int.reduceEq, reduceCtorEq, ↓reduceIte, i31, c31, w2]
  cases b4 : (r3 : Bool)
  · replace h := br_f b4 h
    cases h
    simp -implicitDefEqProofs only [go_sem, Nat.reduceLT, Nat.reduceAdd, Nat.reduceSub, Nat.reduceMul, Nat.reduceEqDiff, Nat.reduceBEq, Nat.reduceLeDiff, Int.reduceToNat, Int.reduceLT, Int.reduceLE, Int.reduceEq, reduceCtorEq, ↓reduceIte, i31, c31, w2, b4]
  · replace h := br_t b4 h
    obtain ⟨r7, q5, h⟩ := bnd_some h
    have w6 := e68 a0.path a1.path r7 q5
    try simp -implicitDefEqProofs only [go_sem, Nat.reduceLT, Nat.reduceAdd, Nat.reduceSub, Nat.reduceMul, Nat.reduceEqDiff, Nat.reduceBEq, Nat.reduceLeDiff, Int.reduceToNat, Int.reduceLT, Int.reduceLE, Int.reduceEq, reduceCtorEq, ↓reduceIte] at w6
    try simp -implicitDefEqProofs only [go_sem, Nat.reduceLT, Nat.reduceAdd, Nat.reduceSub, Nat.reduceMul, Nat.reduceEqDiff, Nat.reduceBEq, Nat.reduceLeDiff, Int.reduceToNat, Int.reduceLT, Int.reduceLE, Int.reduceEq, reduceCtorEq, ↓reduceIte, i31, c31, w2, b4, w6]
    cases b8 : (r7 : Bool)
    · replace h := br_f b8 h
      cases h
      simp -implicitDefEqProofs only [go_sem, Nat.reduceLT, Nat.reduceAdd, Nat.reduceSub, Nat.reduceMul, Nat.reduceEqDiff, Nat.reduceBEq, Nat.reduceLeDiff, Int.reduceToNat, Int.reduceLT, Int.reduceLE, Int.reduceEq, reduceCtorEq, ↓reduceIte, i31, c31, w2, b4, w6, b8]
    · replace h := br_t b8 h
      try simp -implicitDefEqProofs only [go_sem, Nat.reduceLT, Nat.reduceAdd, Nat.reduceSub, Nat.reduceMul, Nat.reduceEqDiff, Nat.reduceBEq, Nat.reduceLeDiff, Int.reduceToNat, Int.reduceLT, Int.reduceLE, Int.reduceEq, reduceCtorEq, ↓reduceIte, i31, c31, w2, b4, w6, b8]
      cases b9 : (eqI a0.comm a1.comm : Bool)
      · replace h := br_f b9 h
        cases h
        simp -implicitDefEqProofs only [go_sem, Nat.reduceLT, Nat.reduceAdd, Nat.reduceSub, Nat.reduceMul, Nat.reduceEqDiff, Nat.reduceBEq, Nat.reduceLeDiff, Int.reduceToNat, Int.reduceLT, Int.reduceLE, Int.reduceEq, reduceCtorEq, ↓reduceIte, i31, c31, w2, b4, w6, b8, b9]
      · replace h := br_t b9 h
        obtain ⟨r12, q10, h⟩ := bnd_some h
        have w11 := e69 a0.acts a1.acts r12 q10
        try simp -implicitDefEqProofs only [go_sem, Nat.reduceLT, Nat.reduceAdd, Nat.reduceSub, Nat.reduceMul, Nat.reduceEqDiff, Nat.reduceBEq, Nat.reduceLeDiff, Int.reduceToNat, Int.reduceLT, Int.reduceLE, Int.reduceEq, reduceCtorEq, ↓reduceIte] at w11
        try simp -implicitDefEqProofs only [go_sem, Nat.reduceLT, Nat.reduceAdd, Nat.reduceSub, Nat.reduceMul, Nat.reduceEqDiff, Nat.reduceBEq, Nat.reduceLeDiff, Int.reduceToNat, Int.reduceLT, Int.reduceLE, Int.reduceEq, reduceCtorEq, ↓reduceIte, i31, c31, w2, b4, w6, b8, b9, w11]
        cases b13 : (r12 : Bool)
        · replace h := br_f b13 h
          cases h
          simp -implicitDefEqProofs only [go_sem, Nat.reduceLT, Nat.reduceAdd, Nat.reduceSub, Nat.reduceMul, Nat.reduceEqDiff, Nat.reduceBEq, Nat.reduceLeDiff, Int.reduceToNat, Int.reduceLT, Int.reduceLE, Int.reduceEq, reduceCtorEq, ↓reduceIte, i31, c31, w2, b4, w6, b8, b9, w11, b13]
        · replace h := br_t b13 h
          try simp -implicitDefEqProofs only [go_sem, Nat.reduceLT, Nat.reduceAdd, Nat.reduceSub, Nat.reduceMul, Nat.reduceEqDiff, Nat.reduceBEq, Nat.reduceLeDiff, Int.reduceToNat, Int.reduceLT, Int.reduceLE, Int.reduceEq, reduceCtorEq, ↓reduceIte, i31, c31, w2, b4, w6, b8, b9, w11, b13]
          cases b14 : (eqI a0.verdict a1.verdict : Bool)
          · replace h := br_f b14 h
            cases h
            simp -implicitDefEqProofs only [go_sem, Nat.reduceLT, Nat.reduceAdd, Nat.reduceSub, Nat.reduceMul, Nat.reduceEqDiff, Nat.reduceBEq, Nat.reduceLeDiff, Int.reduceToNat, Int.reduceLT, Int.reduceLE, Int.reduceEq, reduceCtorEq, ↓reduceIte, i31, c31, w2, b4, w6, b8, b9, w11, b13, b14]
          · replace h := br_t b14 h
            cases h
            simp -implicitDefEqProofs only [go_sem, Nat.reduceLT, Nat.reduceAdd, Nat.reduceSub, Nat.reduceMul, Nat.reduceEqDiff, Nat.reduceBEq, Nat.reduceLeDiff, Int.reduceToNat, Int.reduceLT, Int.reduceLE, Int.reduceEq, reduceCtorEq, ↓reduceIte, i31, c31, w2, b4, w6, b8, b9, w11, b13, b14]
-- f47 laws.eqTermS
theorem call47 (args : List AV) (S : St) : evCall T (evFL T) 47 args S = lendC (evFL T 47) S (lendAll S [[5], [5]] args) := evCall0 fn47 rfl rfl args S
theorem callz47 (args : List AV) (S : St) : evCallFz T (evFL T) 47 args S = lendZ (evFL T 47) S [[0]] (lendAll S [[5], [5]] args) := evCallFz0 fn47 rfl rfl args S
attribute [go_sem] call47 callz47
noncomputable def X47_1 (a0 : (List Term)) (a1 : (List Term)) (o : (Unit ⊕ Unit)) : Ex × Fr × St :=
  match o with
  | .inl o => (.exit 0, frOf 27 (anyF), [])
  | .inr o => (.ret, frOf 27 (upd anyF 4 (.bool false)), [])
noncomputable def E47_1 (a0 : (List Term)) (a1 : (List Term)) (s : Int) : Fr × St := (frOf 27 (upd (upd (upd anyF 0 (.ts .imm 5 (a0.map (encTerm .imm)))) 1 (.ts .imm 5 (a1.map (encTerm .imm)))) 5 (.int .i64 s)), [])
theorem b47_1 (a0 : (List Term)) (a1 : (List Term)) (s : Int) (o : Ctl Int (Unit ⊕ Unit)) (h : m47_1b a0 a1 s = some o) : evCL T 0 k47_1b (E47_1 a0 a1 s).1 (E47_1 a0 a1 s).2 = some (ctlX (E47_1 a0 a1) (X47_1 a0 a1) o) := by
  unfold m47_1b at h
  revert h
  generalize s = s17
  intro h
  try simp -implicitDefEqProofs only [go_sem, Nat.reduceLT, Nat.reduceAdd, Nat.reduceSub, Nat.reduceMul, Nat.reduceEqDiff, Nat.reduceBEq, Nat.reduceLeDiff, Int.reduceToNat, Int.reduceLT, Int.reduceLE, Int.reduceEq, reduceCtorEq, ↓reduceIte, E47_1, X47_1, k47_1b]
  cases b18 : (ltI s17 (↑a0.length : Int) : Bool)
  · replace h := br_f b18 h
    cases h
    simp -implicitDefEqProofs only [go_sem, Nat.reduceLT, Nat.reduceAdd, Nat.reduceSub, Nat.reduceMul, Nat.reduceEqDiff, Nat.reduceBEq, Nat.reduceLeDiff, Int.reduceToNat, Int.reduceLT, Int.reduceLE, Int.reduceEq, reduceCtorEq, ↓reduceIte, E47_1, X47_1, k47_1b, b18]
  · replace h := br_t b18 h
    obtain ⟨x19, q20, h⟩ := bnd_some h
    obtain ⟨g21, g22, g23⟩ := idx_row (encTerm .imm) q20
    try simp -implicitDefEqProofs only [go_sem, Nat.reduceLT, Nat.reduceAdd, Nat.reduceSub, Nat.reduceMul, Nat.reduceEqDiff, Nat.reduceBEq, Nat.reduceLeDiff, Int.reduceToNat, Int.reduceLT, Int.reduceLE, Int.reduceEq, reduceCtorEq, ↓reduceIte] at g22
    try simp -implicitDefEqProofs only [go_sem, Nat.reduceLT, Nat.reduceAdd, Nat.reduceSub, Nat.reduceMul, Nat.reduceEqDiff, Nat.reduceBEq, Nat.reduceLeDiff, Int.reduceToNat, Int.reduceLT, Int.reduceLE, Int.reduceEq, reduceCtorEq, ↓reduceIte] at g23
    obtain ⟨x24, q25, h⟩ := bnd_some h
    obtain ⟨g26, g27, g28⟩ := idx_row (encTerm .imm) q25
    try simp -implicitDefEqProofs only [go_sem, Nat.reduceLT, Nat.reduceAdd, Nat.reduceSub, Nat.reduceMul, Nat.reduceEqDiff, Nat.reduceBEq, Nat.reduceLeDiff, Int.reduceToNat, Int.reduceLT, Int.reduceLE, Int.reduceEq, reduceCtorEq, ↓reduceIte] at g27
    try simp -implicitDefEqProofs only [go_sem, Nat.reduceLT, Nat.reduceAdd, Nat.reduceSub, Nat.reduceMul, Nat.reduceEqDiff, Nat.reduceBEq, Nat.reduceLeDiff, Int.reduceToNat, Int.reduceLT, Int.reduceLE, Int.reduceEq, reduceCtorEq, ↓reduceIte] at g28
    obtain ⟨r31, q29, h⟩ := bnd_some h
    have w30 := e31 x19 x24 r31 q29
    try simp -implicitDefEqProofs only [go_sem, Nat.reduceLT, Nat.reduceAdd, Nat.reduceSub, Nat.reduceMul, Nat.reduceEqDiff, Nat.reduceBEq, Nat.reduceLeDiff, Int.reduceToNat, Int.reduceLT, Int.reduceLE, Int.reduceEq, reduceCtorEq, ↓reduceIte] at w30
    try simp -implicitDefEqProofs only [go_sem, Nat.reduceLT, Nat.reduceAdd, Nat.reduceSub, Nat.reduceMul, Nat.reduceEqDiff, Nat.reduceBEq, Nat.reduceLeDiff, Int.reduceToNat, Int.reduceLT, Int.reduceLE, Int.reduceEq, reduceCtorEq, ↓reduceIte, E47_1, X47_1, k47_1b, b18, g21, g22, g23, g26, g27, g28, w30]
    cases b32 : (r31 : Bool)
    · replace h := br_f b32 h
      cases h
      simp -implicitDefEqProofs only [go_sem, Nat.reduceLT, Nat.reduceAdd, Nat.reduceSub, Nat.reduceMul, Nat.reduceEqDiff, Nat.reduceBEq, Nat.reduceLeDiff, Int.reduceToNat, Int.reduceLT, Int.reduceLE, Int.reduceEq, reduceCtorEq, ↓reduceIte, E47_1, X47_1, k47_1b, b18, g21, g22, g23, g26, g27, g28, w30, b32]
    · replace h := br_t b32 h
      cases h
      simp -implicitDefEqProofs only [go_sem, Nat.reduceLT, Nat.reduceAdd, Nat.reduceSub, Nat.reduceMul, Nat.reduceEqDiff, Nat.reduceBEq, Nat.reduceLeDiff, Int.reduceToNat, Int.reduceLT, Int.reduceLE, Int.reduceEq, reduceCtorEq, ↓reduceIte, E47_1, X47_1, k47_1b, b18, g21, g22, g23, g26, g27, g28, w30, b32]
theorem e47_1 (a0 : (List Term)) (a1 : (List Term)) (s : Int) (o : (Unit ⊕ Unit)) (h : loopP (m47_1b a0 a1) s = some o) : evCL T 0 (.loop k47_1b) (E47_1 a0 a1 s).1 (E47_1 a0 a1 s).2 = some (X47_1 a0 a1 o) :=
  loop_walk (E := E47_1 a0 a1) (X := X47_1 a0 a1) (by intro b; rcases b with b | b <;> (simp only [X47_1]; nofun)) (b47_1 a0 a1) s o h
theorem e47 (a0 : (List Term)) (a1 : (List Term)) (r : Bool) (h : m47 a0 a1 = some r) : evFL T 47 [.ts .imm 5 (a0.map (encTerm .imm)), .ts .imm 5 (a1.map (encTerm .imm))] [] = some (.bool r, []) := by
  unfold m47 at h
  rw [evFL_at fn47 (Nat.le_of_ble_eq_true rfl) rfl (.inr rfl)]
  try simp -implicitDefEqProofs only [go_sem, Nat.reduceLT, Nat.reduceAdd, Nat.reduceSub, Nat.reduceMul, Nat.reduceEqDiff, Nat.reduceBEq, Nat.reduceLeDiff, Int.reduceToNat, Int.reduceLT, Int.reduceLE, Int.reduceEq, reduceCtorEq, ↓reduceIte, i47, c47]
  cases b1 : (eqI (↑a0.length : Int) (↑a1.length : Int) : Bool)
  · replace h := br_f b1 h
    cases h
    simp -implicitDefEqProofs only [go_sem, Nat.reduceLT, Nat.reduceAdd, Nat.reduceSub, Nat.reduceMul, Nat.reduceEqDiff, Nat.reduceBEq, Nat.reduceLeDiff, Int.reduceToNat, Int.reduceLT, Int.reduceLE, Int.reduceEq, reduceCtorEq, ↓reduceIte, i47, c47, b1]
  · replace h := br_t b1 h
    try simp -implicitDefEqProofs only [go_sem, Nat.reduceLT, Nat.reduceAdd, Nat.reduceSub, Nat.reduceMul, Nat.reduceEqDiff, Nat.reduceBEq, Nat.reduceLeDiff, Int.reduceToNat, Int.reduceLT, Int.reduceLE, Int.reduceEq, reduceCtorEq, ↓reduceIte, i47, c47, b1]
    obtain ⟨o, q33, h⟩ := bnd_some h
    rcases o with ⟨⟩ | ⟨⟩
    · replace h := selS_l h
      have w34 := e47_1 a0 a1 0 (.inl ()) q33
      simp only [E47_1, X47_1] at w34
      try simp -implicitDefEqProofs only [go_sem, Nat.reduceLT, Nat.reduceAdd, Nat.reduceSub, Nat.reduceMul, Nat.reduceEqDiff, Nat.reduceBEq, Nat.reduceLeDiff, Int.reduceToNat, Int.reduceLT, Int.reduceLE, Int.reduceEq, reduceCtorEq, ↓reduceIte] at w34
      cases h
      simp -implicitDefEqProofs only [go_sem, Nat.reduceLT, Nat.reduceAdd, Nat.reduceSub, Nat.reduceMul, Nat.reduceEqDiff, Nat.reduceBEq, Nat.reduceLeDiff, Int.reduceToNat, Int.reduceLT, Int.reduceLE, Int.reduceEq, reduceCtorEq, ↓reduceIte, i47, c47, b1, w34]
    · replace h := selS_r h
      have w34 := e47_1 a0 a1 0 (.inr ()) q33
      simp only [E47_1, X47_1] at w34
      try simp -implicitDefEqProofs only [go_sem, Nat.reduceLT, Nat.reduceAdd, Nat.reduceSub, Nat.reduceMul, Nat.reduceEqDiff, Nat.reduceBEq, Nat.reduceLeDiff, Int.reduceToNat, Int.reduceLT, Int.reduceLE, Int.reduceEq, reduceCtorEq, ↓reduceIte] at w34
      cases h
      simp -implicitDefEqProofs only [go_sem, Nat.reduceLT, Nat.reduceAdd, Nat.reduceSub, Nat.reduceMul, Nat.reduceEqDiff, Nat.reduceBEq, Nat.reduceLeDiff, Int.reduceToNat, Int.reduceLT, Int.reduceLE, Int.reduceEq, reduceCtorEq, ↓reduceIte, i47, c47, b1, w34]
-- f17 laws.eqPolicy
theorem call17 (args : List AV) (S : St) : evCall T (evFL T) 17 args S = lendC (evFL T 17) S (lendAll S [[5, 0], [5, 0]] args) := evCall0 fn17 rfl rfl args S
theorem callz17 (args : List AV) (S : St) : evCallFz T (evFL T) 17 args S = lendZ (evFL T 17) S [[0]] (lendAll S [[5, 0], [5, 0]] args) := evCallFz0 fn17 rfl rfl args S
attribute [go_sem] call17 callz17
theorem e17 (a0 : Policy) (a1 : Policy) (r : Bool) (h : m17 a0 a1 = some r) : evFL T 17 [.agg [.ts .imm 5 (a0.terms.map (encTerm .imm)), .bool a0.accept], .agg [.ts .imm 5 (a1.terms.map (encTerm .imm)), .bool a1.accept]] [] = some (.bool r, []) := by
  unfold m17 at h
  rw [evFL_at fn17 (Nat.le_of_ble_eq_true rfl) rfl (.inr rfl)]
  obtain ⟨r3, q1, h⟩ := bnd_some h
  have w2 := e47 a0.terms a1.terms r3 q1
  try simp -implicitDefEqProofs only [go_sem, Nat.reduceLT, Nat.reduceAdd, Nat.reduceSub, Nat.reduceMul, Nat.reduceEqDiff, Nat.reduceBEq, Nat.reduceLeDiff, Int.reduceToNat, Int.reduceLT, Int.reduceLE, Int.reduceEq, reduceCtorEq, ↓reduceIte] at w2
  try simp -implicitDefEqProofs only [go_sem, Nat.reduceLT, Nat.reduceAdd, Nat.reduceSub, Nat.reduceMul, Nat.reduceEqDiff, Nat.reduceBEq, Nat.reduceLeDiff, Int.reduceToNat, Int.reduceLT, Int.reduceLE, Int.reduceEq, reduceCtorEq, ↓reduceIte, i17, c17, w2]
  cases b4 : (r3 : Bool)
  · replace h := br_f b4 h
    cases h
    simp -implicitDefEqProofs only [go_sem, Nat.reduceLT, Nat.reduceAdd, Nat.reduceSub, Nat.reduceMul, Nat.reduceEqDiff, Nat.reduceBEq, Nat.reduceLeDiff, Int.reduceToNat, Int.reduceLT, Int.reduceLE, Int.reduceEq, reduceCtorEq, ↓reduceIte, i17, c17, w2, b4]
  · replace h := br_t b4 h
    try simp -implicitDefEqProofs only [go_sem, Nat.reduceLT, Nat.reduceAdd, Nat.reduceSub, Nat.reduceMul, Nat.reduceEqDiff, Nat.reduceBEq, Nat.reduceLeDiff, Int.reduceToNat, Int.reduceLT, Int.reduceLE, Int.reduceEq, reduceCtorEq, ↓reduceIte, i17, c17, w2, b4]
    cases b5 : (eqB a0.accept a1.accept : Bool)
    · replace h := br_f b5 h
      cases h
      simp -implicitDefEqProofs only [go_sem, Nat.reduceLT, Nat.reduceAdd, Nat.reduceSub, Nat.reduceMul, Nat.reduceEqDiff, Nat.reduceBEq, Nat.reduceLeDiff, Int.reduceToNat, Int.reduceLT, Int.reduceLE, Int.reduceEq, reduceCtorEq, ↓reduceIte, i17, c17, w2, b4, b5]
    · replace h := br_t b5 h
      cases h
      simp -implicitDefEqProofs only [go_sem, Nat.reduceLT, Nat.reduceAdd, Nat.reduceSub, Nat.reduceMul, Nat.reduceEqDiff, Nat.reduceBEq, Nat.reduceLeDiff, Int.reduceToNat, Int.reduceLT, Int.reduceLE, Int.reduceEq, reduceCtorEq, ↓reduceIte, i17, c17, w2, b4, b5]
-- f4 laws.FnExactGoodPolicy
theorem call4 (args : List AV) (S : St) : evCall T (evFL T) 4 args S = lendC (evFL T 4) S (lendAll S [[5, 0]] args) := evCall0 fn4 rfl rfl args S
theorem callz4 (args : List AV) (S : St) : evCallFz T (evFL T) 4 args S = lendZ (evFL T 4) S [[0]] (lendAll S [[5, 0]] args) := evCallFz0 fn4 rfl rfl args S
attribute [go_sem] call4 callz4
theorem e4 (a0 : Policy) (r : Bool) (h : m4 a0 = some r) : evFL T 4 [.agg [.ts .imm 5 (a0.terms.map (encTerm .imm)), .bool a0.accept]] [] = some (.bool r, []) := by
  unfold m4 at h
  rw [evFL_at fn4 (Nat.le_of_ble_eq_true rfl) rfl (.inr rfl)]
  obtain ⟨r3, q1, h⟩ := bnd_some h
  have w2 := e13 a0 1048576 r3 q1
  try simp -implicitDefEqProofs only [go_sem, Nat.reduceLT, Nat.reduceAdd, Nat.reduceSub, Nat.reduceMul, Nat.reduceEqDiff, Nat.reduceBEq, Nat.reduceLeDiff, Int.reduceToNat, Int.reduceLT, Int.reduceLE, Int.reduceEq, reduceCtorEq, ↓reduceIte] at w2
  try simp -implicitDefEqProofs only [go_sem, Nat.reduceLT, Nat.reduceAdd, Nat.reduceSub, Nat.reduceMul, Nat.reduceEqDiff, Nat.reduceBEq, Nat.reduceLeDiff, Int.reduceToNat, Int.reduceLT, Int.reduceLE, Int.reduceEq, reduceCtorEq, ↓reduceIte, i4, c4, w2]
  cases b4 : (ltI r3 0 : Bool)
  · replace h := br_f b4 h
    obtain ⟨r7, q5, h⟩ := bnd_some h
    have w6 := e15 a0 r7 q5
    try simp -implicitDefEqProofs only [go_sem, Nat.reduceLT, Nat.reduceAdd, Nat.reduceSub, Nat.reduceMul, Nat.reduceEqDiff, Nat.reduceBEq, Nat.reduceLeDiff, Int.reduceToNat, Int.reduceLT, Int.reduceLE, Int.reduceEq, reduceCtorEq, ↓reduceIte] at w6
    obtain ⟨r10, q8, h⟩ := bnd_some h
    have w9 := e14 r7 r10 q8
    try simp -implicitDefEqProofs only [go_sem, Nat.reduceLT, Nat.reduceAdd, Nat.reduceSub, Nat.reduceMul, Nat.reduceEqDiff, Nat.reduceBEq, Nat.reduceLeDiff, Int.reduceToNat, Int.reduceLT, Int.reduceLE, Int.reduceEq, reduceCtorEq, ↓reduceIte] at w9
    obtain ⟨r15, q13, h⟩ := bnd_some h
    have w14 := e16 r7 r15 q13
    try simp -implicitDefEqProofs only [go_sem, Nat.reduceLT, Nat.reduceAdd, Nat.reduceSub, Nat.reduceMul, Nat.reduceEqDiff, Nat.reduceBEq, Nat.reduceLeDiff, Int.reduceToNat, Int.reduceLT, Int.reduceLE, Int.reduceEq, reduceCtorEq, ↓reduceIte] at w14
    try simp -implicitDefEqProofs only [go_sem, Nat.reduceLT, Nat.reduceAdd, Nat.reduceSub, Nat.reduceMul, Nat.reduceEqDiff, Nat.reduceBEq, Nat.reduceLeDiff, Int.reduceToNat, Int.reduceLT, Int.reduceLE, Int.reduceEq, reduceCtorEq, ↓reduceIte, i4, c4, w2, b4, w6, w9, w14]
    cases b16 : (eqB r15 r10 : Bool)
    · replace h := br_f b16 h
      cases h
      simp -implicitDefEqProofs only [go_sem, Nat.reduceLT, Nat.reduceAdd, Nat.reduceSub, Nat.reduceMul, Nat.reduceEqDiff, Nat.reduceBEq, Nat.reduceLeDiff, Int.reduceToNat, Int.reduceLT, Int.reduceLE, Int.reduceEq, reduceCtorEq, ↓reduceIte, i4, c4, w2, b4, w6, w9, w14, b16]
    · replace h := br_t b16 h
      obtain ⟨r21, q19, h⟩ := bnd_some h
      have w20 := e17 r7 r7 r21 q19
      try simp -implicitDefEqProofs only [go_sem, Nat.reduceLT, Nat.reduceAdd, Nat.reduceSub, Nat.reduceMul, Nat.reduceEqDiff, Nat.reduceBEq, Nat.reduceLeDiff, Int.reduceToNat, Int.reduceLT, Int.reduceLE, Int.reduceEq, reduceCtorEq, ↓reduceIte] at w20
      try simp -implicitDefEqProofs only [go_sem, Nat.reduceLT, Nat.reduceAdd, Nat.reduceSub, Nat.reduceMul, Nat.reduceEqDiff, Nat.reduceBEq, Nat.reduceLeDiff, Int.reduceToNat, Int.reduceLT, Int.reduceLE, Int.reduceEq, reduceCtorEq, ↓reduceIte, i4, c4, w2, b4, w6, w9, w14, b16, w20]
      cases b22 : (r21 : Bool)
      · replace h := br_f b22 h
        cases h
        simp -implicitDefEqProofs only [go_sem, Nat.reduceLT, Nat.reduceAdd, Nat.reduceSub, Nat.reduceMul, Nat.reduceEqDiff, Nat.reduceBEq, Nat.reduceLeDiff, Int.reduceToNat, Int.reduceLT, Int.reduceLE, Int.reduceEq, reduceCtorEq, ↓reduceIte, i4, c4, w2, b4, w6, w9, w14, b16, w20, b22]
      · replace h := br_t b22 h
        cases h
        simp -implicitDefEqProofs only [go_sem, Nat.reduceLT, Nat.reduceAdd, Nat.reduceSub, Nat.reduceMul, Nat.reduceEqDiff, Nat.reduceBEq, Nat.reduceLeDiff, Int.reduceToNat, Int.reduceLT, Int.reduceLE, Int.reduceEq, reduceCtorEq, ↓reduceIte, i4, c4, w2, b4, w6, w9, w14, b16, w20, b22]
  · replace h := br_t b4 h
    cases h
    simp -implicitDefEqProofs only [go_sem, Nat.reduceLT, Nat.reduceAdd, Nat.reduceSub, Nat.reduceMul, Nat.reduceEqDiff, Nat.reduceBEq, Nat.reduceLeDiff, Int.reduceToNat, Int.reduceLT, Int.reduceLE, Int.reduceEq, reduceCtorEq, ↓reduceIte, i4, c4, w2, b4]
end Go.Pi.Ythidbgihjhkjaaa.GoodPolicy
