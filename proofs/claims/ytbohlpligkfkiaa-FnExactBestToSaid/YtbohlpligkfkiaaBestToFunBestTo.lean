/- What functions of the program answer, and that the law answers true at every input; no condition -/
import Derived.Test.YtbohlpligkfkiaaBestToFuaBestTo
set_option linter.all false
/- Functions of the program: that the code answers as the plain functions do, the rest. -/
namespace Go.Pi.Ytbohlpligkfkiaa.BestTo
open Go Go.Proofs Go.Pi
set_option maxRecDepth 100000
set_option linter.all false
-- f50 impl.GoodAlgebra$1
theorem call50 (args : List AV) (S : St) : evCall T (evFL T) 50 args S = lendC (evFL T 50) S (lendAll S [[1], [0]] args) := evCall0 fn50 rfl rfl rfl args S
theorem callz50 (args : List AV) (S : St) : evCallFz T (evFL T) 50 args S = lendZ (evFL T 50) S [[0]] (lendAll S [[1], [0]] args) := evCallFz0 fn50 rfl rfl rfl args S
theorem calls50 (args : List AV) (S : St) : evCall (T.at true) (evFL T) 50 args S = lendC (evFL T 50) S (lendAll S [[1], [0]] args) := evCall0 fns50 rfl rfl rfl args S
theorem callsz50 (args : List AV) (S : St) : evCallFz (T.at true) (evFL T) 50 args S = lendZ (evFL T 50) S [[0]] (lendAll S [[1], [0]] args) := evCallFz0 fns50 rfl rfl rfl args S
attribute [go_sem] call50 callz50 calls50 callsz50
noncomputable def X50_1 (a0 : (List Int)) (a1 : Algebra) (o : Bool) : Ex × Fr × St :=
  (.normal, frOf 24 (upd anyF 3 (.bool o)), [])
theorem e50_1 (a0 : (List Int)) (a1 : Algebra) (o : Bool) (h : m50_1 a0 a1 = some o) : evCL T 0 k50_1 (frOf 24 (upd (upd anyF 0 (.ts .imm 1 (a0.map encInt))) 1 (.tp .imm 2 [[.int .i64 a1.weights, .ts .imm 1 (a1.apply.map (encLInt .imm))]] 0 0))) [] = some (X50_1 a0 a1 o) := by
  unfold m50_1 at h
  try simp -implicitDefEqProofs only [go_sem, Nat.reduceLT, Nat.reduceAdd, Nat.reduceSub, Nat.reduceMul, Nat.reduceEqDiff, Nat.reduceBEq, Nat.reduceLeDiff, Int.reduceToNat, Int.reduceLT, Int.reduceLE, Int.reduceEq, reduceCtorEq, ↓reduceIte, X50_1, k50_1]
  cases b1 : (eqI (↑a0.length : Int) a1.weights : Bool)
  · replace h := br_f b1 h
    cases h
    simp -implicitDefEqProofs only [go_sem, Nat.reduceLT, Nat.reduceAdd, Nat.reduceSub, Nat.reduceMul, Nat.reduceEqDiff, Nat.reduceBEq, Nat.reduceLeDiff, Int.reduceToNat, Int.reduceLT, Int.reduceLE, Int.reduceEq, reduceCtorEq, ↓reduceIte, X50_1, k50_1, b1]
  · replace h := br_t b1 h
    obtain ⟨r4, q2, h⟩ := bnd_some h
    have w3 := e51 a1 r4 q2
    try simp -implicitDefEqProofs only [go_sem, Nat.reduceLT, Nat.reduceAdd, Nat.reduceSub, Nat.reduceMul, Nat.reduceEqDiff, Nat.reduceBEq, Nat.reduceLeDiff, Int.reduceToNat, Int.reduceLT, Int.reduceLE, Int.reduceEq, reduceCtorEq, ↓reduceIte] at w3
    obtain ⟨x5, q6, h⟩ := bnd_some h
    obtain ⟨g7, g8, g9⟩ := idx_row encInt q6
    try simp -implicitDefEqProofs only [go_sem, Nat.reduceLT, Nat.reduceAdd, Nat.reduceSub, Nat.reduceMul, Nat.reduceEqDiff, Nat.reduceBEq, Nat.reduceLeDiff, Int.reduceToNat, Int.reduceLT, Int.reduceLE, Int.reduceEq, reduceCtorEq, ↓reduceIte] at g8
    try simp -implicitDefEqProofs only [go_sem, Nat.reduceLT, Nat.reduceAdd, Nat.reduceSub, Nat.reduceMul, Nat.reduceEqDiff, Nat.reduceBEq, Nat.reduceLeDiff, Int.reduceToNat, Int.reduceLT, Int.reduceLE, Int.reduceEq, reduceCtorEq, ↓reduceIte] at g9
    try simp -implicitDefEqProofs only [go_sem, Nat.reduceLT, Nat.reduceAdd, Nat.reduceSub, Nat.reduceMul, Nat.reduceEqDiff, Nat.reduceBEq, Nat.reduceLeDiff, Int.reduceToNat, Int.reduceLT, Int.reduceLE, Int.reduceEq, reduceCtorEq, ↓reduceIte, X50_1, k50_1, b1, w3, g7, g8, g9]
    cases b12 : (eqI x5 r4 : Bool)
    · replace h := br_f b12 h
      cases h
      simp -implicitDefEqProofs only [go_sem, Nat.reduceLT, Nat.reduceAdd, Nat.reduceSub, Nat.reduceMul, Nat.reduceEqDiff, Nat.reduceBEq, Nat.reduceLeDiff, Int.reduceToNat, Int.reduceLT, Int.reduceLE, Int.reduceEq, reduceCtorEq, ↓reduceIte, X50_1, k50_1, b1, w3, g7, g8, g9, b12]
    · replace h := br_t b12 h
      obtain ⟨r15, q13, h⟩ := bnd_some h
      have w14 := e52 a0 (fun y0 => m53 y0 a1) 53 [.tp .imm 2 [[.int .i64 a1.weights, .ts .imm 1 (a1.apply.map (encLInt .imm))]] 0 0] ⟨⟨fun S => by simp -implicitDefEqProofs only [go_sem, Nat.reduceLT, Nat.reduceAdd, Nat.reduceSub, Nat.reduceMul, Nat.reduceEqDiff, Nat.reduceBEq, Nat.reduceLeDiff, Int.reduceToNat, Int.reduceLT, Int.reduceLE, Int.reduceEq, reduceCtorEq, ↓reduceIte], fun _ _ _ _ _ _ => by simp -implicitDefEqProofs only [go_sem, Nat.reduceLT, Nat.reduceAdd, Nat.reduceSub, Nat.reduceMul, Nat.reduceEqDiff, Nat.reduceBEq, Nat.reduceLeDiff, Int.reduceToNat, Int.reduceLT, Int.reduceLE, Int.reduceEq, reduceCtorEq, ↓reduceIte]⟩, fun y0 r h => ⟨fun S => by simp -implicitDefEqProofs only [go_sem, Nat.reduceLT, Nat.reduceAdd, Nat.reduceSub, Nat.reduceMul, Nat.reduceEqDiff, Nat.reduceBEq, Nat.reduceLeDiff, Int.reduceToNat, Int.reduceLT, Int.reduceLE, Int.reduceEq, reduceCtorEq, ↓reduceIte, e53 y0 a1 r h], fun S => by simp -implicitDefEqProofs only [go_sem, Nat.reduceLT, Nat.reduceAdd, Nat.reduceSub, Nat.reduceMul, Nat.reduceEqDiff, Nat.reduceBEq, Nat.reduceLeDiff, Int.reduceToNat, Int.reduceLT, Int.reduceLE, Int.reduceEq, reduceCtorEq, ↓reduceIte, e53 y0 a1 r h]⟩⟩ r15 q13
      try simp -implicitDefEqProofs only [go_sem, Nat.reduceLT, Nat.reduceAdd, Nat.reduceSub, Nat.reduceMul, Nat.reduceEqDiff, Nat.reduceBEq, Nat.reduceLeDiff, Int.reduceToNat, Int.reduceLT, Int.reduceLE, Int.reduceEq, reduceCtorEq, ↓reduceIte] at w14
      cases h
      simp -implicitDefEqProofs only [go_sem, Nat.reduceLT, Nat.reduceAdd, Nat.reduceSub, Nat.reduceMul, Nat.reduceEqDiff, Nat.reduceBEq, Nat.reduceLeDiff, Int.reduceToNat, Int.reduceLT, Int.reduceLE, Int.reduceEq, reduceCtorEq, ↓reduceIte, X50_1, k50_1, b1, w3, g7, g8, g9, b12, w14]
theorem e50 (a0 : (List Int)) (a1 : Algebra) (r : Bool) (h : m50 a0 a1 = some r) : evFL T 50 [.ts .imm 1 (a0.map encInt), .tp .imm 2 [[.int .i64 a1.weights, .ts .imm 1 (a1.apply.map (encLInt .imm))]] 0 0] [] = some (.bool r, []) := by
  unfold m50 at h
  rw [evFL_at fn50 (Nat.le_of_ble_eq_true rfl) rfl (.inr rfl) ⟨rfl, rfl⟩]
  obtain ⟨v18, q16, h⟩ := bnd_some h
  have w17 := e50_1 a0 a1 v18 q16
  simp only [X50_1] at w17
  try simp -implicitDefEqProofs only [go_sem, Nat.reduceLT, Nat.reduceAdd, Nat.reduceSub, Nat.reduceMul, Nat.reduceEqDiff, Nat.reduceBEq, Nat.reduceLeDiff, Int.reduceToNat, Int.reduceLT, Int.reduceLE, Int.reduceEq, reduceCtorEq, ↓reduceIte] at w17
  cases h
  simp -implicitDefEqProofs only [go_sem, Nat.reduceLT, Nat.reduceAdd, Nat.reduceSub, Nat.reduceMul, Nat.reduceEqDiff, Nat.reduceBEq, Nat.reduceLeDiff, Int.reduceToNat, Int.reduceLT, Int.reduceLE, Int.reduceEq, reduceCtorEq, ↓reduceIte, i50, c50, w17]
-- f15 impl.GoodAlgebra
theorem call15 (args : List AV) (S : St) : evCall T (evFL T) 15 args S = lendC (evFL T 15) S (lendAll S [[0, 1]] args) := evCall0 fn15 rfl rfl rfl args S
theorem callz15 (args : List AV) (S : St) : evCallFz T (evFL T) 15 args S = lendZ (evFL T 15) S [[0]] (lendAll S [[0, 1]] args) := evCallFz0 fn15 rfl rfl rfl args S
theorem calls15 (args : List AV) (S : St) : evCall (T.at true) (evFL T) 15 args S = lendC (evFL T 15) S (lendAll S [[0, 1]] args) := evCall0 fns15 rfl rfl rfl args S
theorem callsz15 (args : List AV) (S : St) : evCallFz (T.at true) (evFL T) 15 args S = lendZ (evFL T 15) S [[0]] (lendAll S [[0, 1]] args) := evCallFz0 fns15 rfl rfl rfl args S
attribute [go_sem] call15 callz15 calls15 callsz15
noncomputable def X15_1 (a0 : Algebra) (o : Bool) : Ex × Fr × St :=
  (.normal, frOf 19 (upd (upd anyF 1 (.ptr 0 0 0)) 13 (.bool o)), [some ⟨.box, 2, [[.int .i64 a0.weights, .ts .imm 1 (a0.apply.map (encLInt .imm))]]⟩])
theorem e15_1 (a0 : Algebra) (o : Bool) (h : m15_1 a0 = some o) : evCL T 0 k15_1 (frOf 19 (upd anyF 1 (.ptr 0 0 0))) [some ⟨.box, 2, [[.int .i64 a0.weights, .ts .imm 1 (a0.apply.map (encLInt .imm))]]⟩] = some (X15_1 a0 o) := by
  unfold m15_1 at h
  obtain ⟨r3, q1, h⟩ := bnd_some h
  have w2 := e48 a0.weights 2 12 r3 q1
  try simp -implicitDefEqProofs only [go_sem, Nat.reduceLT, Nat.reduceAdd, Nat.reduceSub, Nat.reduceMul, Nat.reduceEqDiff, Nat.reduceBEq, Nat.reduceLeDiff, Int.reduceToNat, Int.reduceLT, Int.reduceLE, Int.reduceEq, reduceCtorEq, ↓reduceIte] at w2
  try simp -implicitDefEqProofs only [go_sem, Nat.reduceLT, Nat.reduceAdd, Nat.reduceSub, Nat.reduceMul, Nat.reduceEqDiff, Nat.reduceBEq, Nat.reduceLeDiff, Int.reduceToNat, Int.reduceLT, Int.reduceLE, Int.reduceEq, reduceCtorEq, ↓reduceIte, X15_1, k15_1, w2]
  cases b4 : (r3 : Bool)
  · replace h := br_f b4 h
    cases h
    simp -implicitDefEqProofs only [go_sem, Nat.reduceLT, Nat.reduceAdd, Nat.reduceSub, Nat.reduceMul, Nat.reduceEqDiff, Nat.reduceBEq, Nat.reduceLeDiff, Int.reduceToNat, Int.reduceLT, Int.reduceLE, Int.reduceEq, reduceCtorEq, ↓reduceIte, X15_1, k15_1, w2, b4]
  · replace h := br_t b4 h
    obtain ⟨r7, q5, h⟩ := bnd_some h
    have w6 := e48 (↑a0.apply.length : Int) 1 4 r7 q5
    try simp -implicitDefEqProofs only [go_sem, Nat.reduceLT, Nat.reduceAdd, Nat.reduceSub, Nat.reduceMul, Nat.reduceEqDiff, Nat.reduceBEq, Nat.reduceLeDiff, Int.reduceToNat, Int.reduceLT, Int.reduceLE, Int.reduceEq, reduceCtorEq, ↓reduceIte] at w6
    cases h
    simp -implicitDefEqProofs only [go_sem, Nat.reduceLT, Nat.reduceAdd, Nat.reduceSub, Nat.reduceMul, Nat.reduceEqDiff, Nat.reduceBEq, Nat.reduceLeDiff, Int.reduceToNat, Int.reduceLT, Int.reduceLE, Int.reduceEq, reduceCtorEq, ↓reduceIte, X15_1, k15_1, w2, b4, w6]
theorem e15 (a0 : Algebra) (r : Bool) (h : m15 a0 = some r) : evFL T 15 [.agg [.int .i64 a0.weights, .ts .imm 1 (a0.apply.map (encLInt .imm))]] [] = some (.bool r, []) := by
  unfold m15 at h
  rw [evFL_at fn15 (Nat.le_of_ble_eq_true rfl) rfl (.inr rfl) ⟨rfl, rfl⟩]
  obtain ⟨v10, q8, h⟩ := bnd_some h
  have w9 := e15_1 a0 v10 q8
  simp only [X15_1] at w9
  try simp -implicitDefEqProofs only [go_sem, Nat.reduceLT, Nat.reduceAdd, Nat.reduceSub, Nat.reduceMul, Nat.reduceEqDiff, Nat.reduceBEq, Nat.reduceLeDiff, Int.reduceToNat, Int.reduceLT, Int.reduceLE, Int.reduceEq, reduceCtorEq, ↓reduceIte] at w9
  try simp -implicitDefEqProofs only [go_sem, Nat.reduceLT, Nat.reduceAdd, Nat.reduceSub, Nat.reduceMul, Nat.reduceEqDiff, Nat.reduceBEq, Nat.reduceLeDiff, Int.reduceToNat, Int.reduceLT, Int.reduceLE, Int.reduceEq, reduceCtorEq, ↓reduceIte, i15, c15, w9]
  cases b11 : (v10 : Bool)
  · replace h := br_f b11 h
    obtain ⟨r14, q12, h⟩ := bnd_some h
    have w13 := e49 a0.apply (fun y0 => m50 y0 a0) 50 [.tp .imm 2 [[.int .i64 a0.weights, .ts .imm 1 (a0.apply.map (encLInt .imm))]] 0 0] ⟨⟨fun S => by simp -implicitDefEqProofs only [go_sem, Nat.reduceLT, Nat.reduceAdd, Nat.reduceSub, Nat.reduceMul, Nat.reduceEqDiff, Nat.reduceBEq, Nat.reduceLeDiff, Int.reduceToNat, Int.reduceLT, Int.reduceLE, Int.reduceEq, reduceCtorEq, ↓reduceIte], fun _ _ _ _ _ _ => by simp -implicitDefEqProofs only [go_sem, Nat.reduceLT, Nat.reduceAdd, Nat.reduceSub, Nat.reduceMul, Nat.reduceEqDiff, Nat.reduceBEq, Nat.reduceLeDiff, Int.reduceToNat, Int.reduceLT, Int.reduceLE, Int.reduceEq, reduceCtorEq, ↓reduceIte]⟩, fun y0 r h => ⟨fun S => by simp -implicitDefEqProofs only [go_sem, Nat.reduceLT, Nat.reduceAdd, Nat.reduceSub, Nat.reduceMul, Nat.reduceEqDiff, Nat.reduceBEq, Nat.reduceLeDiff, Int.reduceToNat, Int.reduceLT, Int.reduceLE, Int.reduceEq, reduceCtorEq, ↓reduceIte, e50 y0 a0 r h], fun S => by simp -implicitDefEqProofs only [go_sem, Nat.reduceLT, Nat.reduceAdd, Nat.reduceSub, Nat.reduceMul, Nat.reduceEqDiff, Nat.reduceBEq, Nat.reduceLeDiff, Int.reduceToNat, Int.reduceLT, Int.reduceLE, Int.reduceEq, reduceCtorEq, ↓reduceIte, e50 y0 a0 r h]⟩⟩ r14 q12
    try simp -implicitDefEqProofs only [go_sem, Nat.reduceLT, Nat.reduceAdd, Nat.reduceSub, Nat.reduceMul, Nat.reduceEqDiff, Nat.reduceBEq, Nat.reduceLeDiff, Int.reduceToNat, Int.reduceLT, Int.reduceLE, Int.reduceEq, reduceCtorEq, ↓reduceIte] at w13
    cases h
    simp -implicitDefEqProofs only [go_sem, Nat.reduceLT, Nat.reduceAdd, Nat.reduceSub, Nat.reduceMul, Nat.reduceEqDiff, Nat.reduceBEq, Nat.reduceLeDiff, Int.reduceToNat, Int.reduceLT, Int.reduceLE, Int.reduceEq, reduceCtorEq, ↓reduceIte, i15, c15, w9, b11, w13]
  · replace h := br_t b11 h
    cases h
    simp -implicitDefEqProofs only [go_sem, Nat.reduceLT, Nat.reduceAdd, Nat.reduceSub, Nat.reduceMul, Nat.reduceEqDiff, Nat.reduceBEq, Nat.reduceLeDiff, Int.reduceToNat, Int.reduceLT, Int.reduceLE, Int.reduceEq, reduceCtorEq, ↓reduceIte, i15, c15, w9, b11]
-- f83 slices.IndexFunc[[]impl.Arc,impl.Arc]
theorem call83 (args : List AV) (S : St) : evCall T (evFL T) 83 args S = lendC (evFL T 83) S (lendAll S [[3], [0]] args) := evCall0 fn83 rfl rfl rfl args S
theorem callz83 (args : List AV) (S : St) : evCallFz T (evFL T) 83 args S = lendZ (evFL T 83) S [[0]] (lendAll S [[3], [0]] args) := evCallFz0 fn83 rfl rfl rfl args S
theorem calls83 (args : List AV) (S : St) : evCall (T.at true) (evFL T) 83 args S = lendC (evFL T 83) S (lendAll S [[3], [0]] args) := evCall0 fns83 rfl rfl rfl args S
theorem callsz83 (args : List AV) (S : St) : evCallFz (T.at true) (evFL T) 83 args S = lendZ (evFL T 83) S [[0]] (lendAll S [[3], [0]] args) := evCallFz0 fns83 rfl rfl rfl args S
attribute [go_sem] call83 callz83 calls83 callsz83
noncomputable def X83_1 (a1_f : Nat) (a1_c : List AV) (a0 : (List Arc)) (p1 : Int) (a1 : (Arc → Option Bool)) (o : (Unit ⊕ Int)) : Ex × Fr × St :=
  match o with
  | .inl o => (.exit 0, frOf 19 (anyF), [])
  | .inr o => (.ret, frOf 19 (upd anyF 4 (.int .i64 o)), [])
noncomputable def E83_1 (a1_f : Nat) (a1_c : List AV) (a0 : (List Arc)) (p1 : Int) (a1 : (Arc → Option Bool)) (s : Int) : Fr × St := (frOf 19 (upd (upd (upd (upd anyF 0 (.ts .imm 3 (a0.map encArc))) 1 (.fn a1_f a1_c)) 7 (.int .i64 p1)) 8 (.int .i64 s)), [])
theorem b83_1 (a0 : (List Arc)) (p1 : Int) (a1 : (Arc → Option Bool)) (a1_f : Nat) (a1_c : List AV) (a1_h : ((∀ S, mapO (lendPtr S) a1_c = some a1_c) ∧ (∀ n0 src R tm t c, tdL n0 src R tm t c a1_c = some a1_c)) ∧ ∀ y0 r, a1 y0 = some r → (∀ S, evCall T (evFL T) a1_f ([.agg [.int .i64 y0.from_, .int .i64 y0.to, .int .i64 y0.label]] ++ a1_c) S = some (.bool r, S)) ∧ (∀ S, evCallFz T (evFL T) a1_f ([.agg [.int .i64 y0.from_, .int .i64 y0.to, .int .i64 y0.label]] ++ a1_c) S = some (.bool r, S))) (s : Int) (o : Ctl Int (Unit ⊕ Int)) (h : m83_1b a0 p1 a1 s = some o) : evCL T 0 k83_1b (E83_1 a1_f a1_c a0 p1 a1 s).1 (E83_1 a1_f a1_c a0 p1 a1 s).2 = some (ctlX (E83_1 a1_f a1_c a0 p1 a1) (X83_1 a1_f a1_c a0 p1 a1) o) := by
  unfold m83_1b at h
  revert h
  generalize s = s12
  intro h
  try simp -implicitDefEqProofs only [go_sem, Nat.reduceLT, Nat.reduceAdd, Nat.reduceSub, Nat.reduceMul, Nat.reduceEqDiff, Nat.reduceBEq, Nat.reduceLeDiff, Int.reduceToNat, Int.reduceLT, Int.reduceLE, Int.reduceEq, reduceCtorEq, ↓reduceIte, E83_1, X83_1, k83_1b, a1_h.1]
  cases b13 : (ltI s12 p1 : Bool)
  · replace h := br_f b13 h
    cases h
    simp -implicitDefEqProofs only [go_sem, Nat.reduceLT, Nat.reduceAdd, Nat.reduceSub, Nat.reduceMul, Nat.reduceEqDiff, Nat.reduceBEq, Nat.reduceLeDiff, Int.reduceToNat, Int.reduceLT, Int.reduceLE, Int.reduceEq, reduceCtorEq, ↓reduceIte, E83_1, X83_1, k83_1b, a1_h.1, b13]
  · replace h := br_t b13 h
    obtain ⟨x14, q15, h⟩ := bnd_some h
    obtain ⟨g16, g17, g18⟩ := idx_row encArc q15
    try simp -implicitDefEqProofs only [go_sem, Nat.reduceLT, Nat.reduceAdd, Nat.reduceSub, Nat.reduceMul, Nat.reduceEqDiff, Nat.reduceBEq, Nat.reduceLeDiff, Int.reduceToNat, Int.reduceLT, Int.reduceLE, Int.reduceEq, reduceCtorEq, ↓reduceIte] at g17
    try simp -implicitDefEqProofs only [go_sem, Nat.reduceLT, Nat.reduceAdd, Nat.reduceSub, Nat.reduceMul, Nat.reduceEqDiff, Nat.reduceBEq, Nat.reduceLeDiff, Int.reduceToNat, Int.reduceLT, Int.reduceLE, Int.reduceEq, reduceCtorEq, ↓reduceIte] at g18
    obtain ⟨r19, q20, h⟩ := bnd_some h
    have w21 := a1_h.2 x14 r19 q20
    try simp -implicitDefEqProofs only [go_sem, Nat.reduceLT, Nat.reduceAdd, Nat.reduceSub, Nat.reduceMul, Nat.reduceEqDiff, Nat.reduceBEq, Nat.reduceLeDiff, Int.reduceToNat, Int.reduceLT, Int.reduceLE, Int.reduceEq, reduceCtorEq, ↓reduceIte] at w21
    try simp -implicitDefEqProofs only [go_sem, Nat.reduceLT, Nat.reduceAdd, Nat.reduceSub, Nat.reduceMul, Nat.reduceEqDiff, Nat.reduceBEq, Nat.reduceLeDiff, Int.reduceToNat, Int.reduceLT, Int.reduceLE, Int.reduceEq, reduceCtorEq, ↓reduceIte, E83_1, X83_1, k83_1b, a1_h.1, b13, g16, g17, g18, w21.1, w21.2]
    cases b22 : (r19 : Bool)
    · replace h := br_f b22 h
      cases h
      simp -implicitDefEqProofs only [go_sem, Nat.reduceLT, Nat.reduceAdd, Nat.reduceSub, Nat.reduceMul, Nat.reduceEqDiff, Nat.reduceBEq, Nat.reduceLeDiff, Int.reduceToNat, Int.reduceLT, Int.reduceLE, Int.reduceEq, reduceCtorEq, ↓reduceIte, E83_1, X83_1, k83_1b, a1_h.1, b13, g16, g17, g18, w21.1, w21.2, b22]
    · replace h := br_t b22 h
      cases h
      simp -implicitDefEqProofs only [go_sem, Nat.reduceLT, Nat.reduceAdd, Nat.reduceSub, Nat.reduceMul, Nat.reduceEqDiff, Nat.reduceBEq, Nat.reduceLeDiff, Int.reduceToNat, Int.reduceLT, Int.reduceLE, Int.reduceEq, reduceCtorEq, ↓reduceIte, E83_1, X83_1, k83_1b, a1_h.1, b13, g16, g17, g18, w21.1, w21.2, b22]
theorem e83_1 (a0 : (List Arc)) (p1 : Int) (a1 : (Arc → Option Bool)) (a1_f : Nat) (a1_c : List AV) (a1_h : ((∀ S, mapO (lendPtr S) a1_c = some a1_c) ∧ (∀ n0 src R tm t c, tdL n0 src R tm t c a1_c = some a1_c)) ∧ ∀ y0 r, a1 y0 = some r → (∀ S, evCall T (evFL T) a1_f ([.agg [.int .i64 y0.from_, .int .i64 y0.to, .int .i64 y0.label]] ++ a1_c) S = some (.bool r, S)) ∧ (∀ S, evCallFz T (evFL T) a1_f ([.agg [.int .i64 y0.from_, .int .i64 y0.to, .int .i64 y0.label]] ++ a1_c) S = some (.bool r, S))) (s : Int) (o : (Unit ⊕ Int)) (h : loopP (m83_1b a0 p1 a1) s = some o) : evCL T 0 (.loop k83_1b) (E83_1 a1_f a1_c a0 p1 a1 s).1 (E83_1 a1_f a1_c a0 p1 a1 s).2 = some (X83_1 a1_f a1_c a0 p1 a1 o) :=
  loop_walk (E := E83_1 a1_f a1_c a0 p1 a1) (X := X83_1 a1_f a1_c a0 p1 a1) (by intro b; rcases b with b | b <;> (simp only [X83_1]; nofun)) (b83_1 a0 p1 a1 a1_f a1_c a1_h) s o h
theorem e83 (a0 : (List Arc)) (a1 : (Arc → Option Bool)) (a1_f : Nat) (a1_c : List AV) (a1_h : ((∀ S, mapO (lendPtr S) a1_c = some a1_c) ∧ (∀ n0 src R tm t c, tdL n0 src R tm t c a1_c = some a1_c)) ∧ ∀ y0 r, a1 y0 = some r → (∀ S, evCall T (evFL T) a1_f ([.agg [.int .i64 y0.from_, .int .i64 y0.to, .int .i64 y0.label]] ++ a1_c) S = some (.bool r, S)) ∧ (∀ S, evCallFz T (evFL T) a1_f ([.agg [.int .i64 y0.from_, .int .i64 y0.to, .int .i64 y0.label]] ++ a1_c) S = some (.bool r, S))) (r : Int) (h : m83 a0 a1 = some r) : evFL T 83 [.ts .imm 3 (a0.map encArc), .fn a1_f a1_c] [] = some (.int .i64 r, []) := by
  unfold m83 at h
  rw [evFL_at fn83 (Nat.le_of_ble_eq_true rfl) rfl (.inr rfl) ⟨rfl, rfl⟩]
  try simp -implicitDefEqProofs only [go_sem, Nat.reduceLT, Nat.reduceAdd, Nat.reduceSub, Nat.reduceMul, Nat.reduceEqDiff, Nat.reduceBEq, Nat.reduceLeDiff, Int.reduceToNat, Int.reduceLT, Int.reduceLE, Int.reduceEq, reduceCtorEq, ↓reduceIte, i83, c83, a1_h.1]
  obtain ⟨o, q23, h⟩ := bnd_some h
  rcases o with ⟨⟩ | v25
  · replace h := selS_l h
    have w24 := e83_1 a0 (↑a0.length : Int) a1 a1_f a1_c a1_h 0 (.inl ()) q23
    simp only [E83_1, X83_1] at w24
    try simp -implicitDefEqProofs only [go_sem, Nat.reduceLT, Nat.reduceAdd, Nat.reduceSub, Nat.reduceMul, Nat.reduceEqDiff, Nat.reduceBEq, Nat.reduceLeDiff, Int.reduceToNat, Int.reduceLT, Int.reduceLE, Int.reduceEq, reduceCtorEq, ↓reduceIte] at w24
    cases h
    simp -implicitDefEqProofs only [go_sem, Nat.reduceLT, Nat.reduceAdd, Nat.reduceSub, Nat.reduceMul, Nat.reduceEqDiff, Nat.reduceBEq, Nat.reduceLeDiff, Int.reduceToNat, Int.reduceLT, Int.reduceLE, Int.reduceEq, reduceCtorEq, ↓reduceIte, i83, c83, a1_h.1, w24]
  · replace h := selS_r h
    have w24 := e83_1 a0 (↑a0.length : Int) a1 a1_f a1_c a1_h 0 (.inr v25) q23
    simp only [E83_1, X83_1] at w24
    try simp -implicitDefEqProofs only [go_sem, Nat.reduceLT, Nat.reduceAdd, Nat.reduceSub, Nat.reduceMul, Nat.reduceEqDiff, Nat.reduceBEq, Nat.reduceLeDiff, Int.reduceToNat, Int.reduceLT, Int.reduceLE, Int.reduceEq, reduceCtorEq, ↓reduceIte] at w24
    cases h
    simp -implicitDefEqProofs only [go_sem, Nat.reduceLT, Nat.reduceAdd, Nat.reduceSub, Nat.reduceMul, Nat.reduceEqDiff, Nat.reduceBEq, Nat.reduceLeDiff, Int.reduceToNat, Int.reduceLT, Int.reduceLE, Int.reduceEq, reduceCtorEq, ↓reduceIte, i83, c83, a1_h.1, w24]
-- f80 slices.ContainsFunc[[]impl.Arc,impl.Arc]
theorem call80 (args : List AV) (S : St) : evCall T (evFL T) 80 args S = lendC (evFL T 80) S (lendAll S [[3], [0]] args) := evCall0 fn80 rfl rfl rfl args S
theorem callz80 (args : List AV) (S : St) : evCallFz T (evFL T) 80 args S = lendZ (evFL T 80) S [[0]] (lendAll S [[3], [0]] args) := evCallFz0 fn80 rfl rfl rfl args S
theorem calls80 (args : List AV) (S : St) : evCall (T.at true) (evFL T) 80 args S = lendC (evFL T 80) S (lendAll S [[3], [0]] args) := evCall0 fns80 rfl rfl rfl args S
theorem callsz80 (args : List AV) (S : St) : evCallFz (T.at true) (evFL T) 80 args S = lendZ (evFL T 80) S [[0]] (lendAll S [[3], [0]] args) := evCallFz0 fns80 rfl rfl rfl args S
attribute [go_sem] call80 callz80 calls80 callsz80
theorem e80 (a0 : (List Arc)) (a1 : (Arc → Option Bool)) (a1_f : Nat) (a1_c : List AV) (a1_h : ((∀ S, mapO (lendPtr S) a1_c = some a1_c) ∧ (∀ n0 src R tm t c, tdL n0 src R tm t c a1_c = some a1_c)) ∧ ∀ y0 r, a1 y0 = some r → (∀ S, evCall T (evFL T) a1_f ([.agg [.int .i64 y0.from_, .int .i64 y0.to, .int .i64 y0.label]] ++ a1_c) S = some (.bool r, S)) ∧ (∀ S, evCallFz T (evFL T) a1_f ([.agg [.int .i64 y0.from_, .int .i64 y0.to, .int .i64 y0.label]] ++ a1_c) S = some (.bool r, S))) (r : Bool) (h : m80 a0 a1 = some r) : evFL T 80 [.ts .imm 3 (a0.map encArc), .fn a1_f a1_c] [] = some (.bool r, []) := by
  unfold m80 at h
  rw [evFL_at fn80 (Nat.le_of_ble_eq_true rfl) rfl (.inr rfl) ⟨rfl, rfl⟩]
  obtain ⟨r3, q1, h⟩ := bnd_some h
  have w2 := e83 a0 a1 a1_f a1_c a1_h r3 q1
  try simp -implicitDefEqProofs only [go_sem, Nat.reduceLT, Nat.reduceAdd, Nat.reduceSub, Nat.reduceMul, Nat.reduceEqDiff, Nat.reduceBEq, Nat.reduceLeDiff, Int.reduceToNat, Int.reduceLT, Int.reduceLE, Int.reduceEq, reduceCtorEq, ↓reduceIte] at w2
  cases h
  simp -implicitDefEqProofs only [go_sem, Nat.reduceLT, Nat.reduceAdd, Nat.reduceSub, Nat.reduceMul, Nat.reduceEqDiff, Nat.reduceBEq, Nat.reduceLeDiff, Int.reduceToNat, Int.reduceLT, Int.reduceLE, Int.reduceEq, reduceCtorEq, ↓reduceIte, i80, c80, a1_h.1, w2]
-- f64 impl.isSpeaker
theorem call64 (args : List AV) (S : St) : evCall T (evFL T) 64 args S = lendC (evFL T 64) S (lendAll S [[0]] args) := evCall0 fn64 rfl rfl rfl args S
theorem callz64 (args : List AV) (S : St) : evCallFz T (evFL T) 64 args S = lendZ (evFL T 64) S [[0]] (lendAll S [[0]] args) := evCallFz0 fn64 rfl rfl rfl args S
theorem calls64 (args : List AV) (S : St) : evCall (T.at true) (evFL T) 64 args S = lendC (evFL T 64) S (lendAll S [[0]] args) := evCall0 fns64 rfl rfl rfl args S
theorem callsz64 (args : List AV) (S : St) : evCallFz (T.at true) (evFL T) 64 args S = lendZ (evFL T 64) S [[0]] (lendAll S [[0]] args) := evCallFz0 fns64 rfl rfl rfl args S
attribute [go_sem] call64 callz64 calls64 callsz64
theorem e64 (a0 : Int) (r : Bool) (h : m64 a0 = some r) : evFL T 64 [.int .i64 a0] [] = some (.bool r, []) := by
  unfold m64 at h
  rw [evFL_at fn64 (Nat.le_of_ble_eq_true rfl) rfl (.inr rfl) ⟨rfl, rfl⟩]
  obtain ⟨r3, q1, h⟩ := bnd_some h
  have w2 := e48 a0 0 5 r3 q1
  try simp -implicitDefEqProofs only [go_sem, Nat.reduceLT, Nat.reduceAdd, Nat.reduceSub, Nat.reduceMul, Nat.reduceEqDiff, Nat.reduceBEq, Nat.reduceLeDiff, Int.reduceToNat, Int.reduceLT, Int.reduceLE, Int.reduceEq, reduceCtorEq, ↓reduceIte] at w2
  cases h
  simp -implicitDefEqProofs only [go_sem, Nat.reduceLT, Nat.reduceAdd, Nat.reduceSub, Nat.reduceMul, Nat.reduceEqDiff, Nat.reduceBEq, Nat.reduceLeDiff, Int.reduceToNat, Int.reduceLT, Int.reduceLE, Int.reduceEq, reduceCtorEq, ↓reduceIte, i64, c64, w2]
-- f81 impl.areArcs$1
theorem call81 (args : List AV) (S : St) : evCall T (evFL T) 81 args S = lendC (evFL T 81) S (lendAll S [[0, 0, 0], [0]] args) := evCall0 fn81 rfl rfl rfl args S
theorem callz81 (args : List AV) (S : St) : evCallFz T (evFL T) 81 args S = lendZ (evFL T 81) S [[0]] (lendAll S [[0, 0, 0], [0]] args) := evCallFz0 fn81 rfl rfl rfl args S
theorem calls81 (args : List AV) (S : St) : evCall (T.at true) (evFL T) 81 args S = lendC (evFL T 81) S (lendAll S [[0, 0, 0], [0]] args) := evCall0 fns81 rfl rfl rfl args S
theorem callsz81 (args : List AV) (S : St) : evCallFz (T.at true) (evFL T) 81 args S = lendZ (evFL T 81) S [[0]] (lendAll S [[0, 0, 0], [0]] args) := evCallFz0 fns81 rfl rfl rfl args S
attribute [go_sem] call81 callz81 calls81 callsz81
noncomputable def X81_1 (a1 : Algebra) (a0 : Arc) (o : Bool) : Ex × Fr × St :=
  (.normal, frOf 31 (upd anyF 3 (.bool o)), [])
theorem e81_1 (a1 : Algebra) (a0 : Arc) (o : Bool) (h : m81_1 a1 a0 = some o) : evCL T 0 k81_1 (frOf 31 (upd (upd anyF 1 (.tp .imm 2 [[.int .i64 a1.weights, .ts .imm 1 (a1.apply.map (encLInt .imm))]] 0 0)) 2 (.ptr 0 0 0))) [some ⟨.box, 3, [[.int .i64 a0.from_, .int .i64 a0.to, .int .i64 a0.label]]⟩] = some (X81_1 a1 a0 o) := by
  unfold m81_1 at h
  obtain ⟨r3, q1, h⟩ := bnd_some h
  have w2 := e64 a0.from_ r3 q1
  try simp -implicitDefEqProofs only [go_sem, Nat.reduceLT, Nat.reduceAdd, Nat.reduceSub, Nat.reduceMul, Nat.reduceEqDiff, Nat.reduceBEq, Nat.reduceLeDiff, Int.reduceToNat, Int.reduceLT, Int.reduceLE, Int.reduceEq, reduceCtorEq, ↓reduceIte] at w2
  try simp -implicitDefEqProofs only [go_sem, Nat.reduceLT, Nat.reduceAdd, Nat.reduceSub, Nat.reduceMul, Nat.reduceEqDiff, Nat.reduceBEq, Nat.reduceLeDiff, Int.reduceToNat, Int.reduceLT, Int.reduceLE, Int.reduceEq, reduceCtorEq, ↓reduceIte, X81_1, k81_1, w2]
  cases b4 : (r3 : Bool)
  · replace h := br_f b4 h
    cases h
    simp -implicitDefEqProofs only [go_sem, Nat.reduceLT, Nat.reduceAdd, Nat.reduceSub, Nat.reduceMul, Nat.reduceEqDiff, Nat.reduceBEq, Nat.reduceLeDiff, Int.reduceToNat, Int.reduceLT, Int.reduceLE, Int.reduceEq, reduceCtorEq, ↓reduceIte, X81_1, k81_1, w2, b4]
  · replace h := br_t b4 h
    obtain ⟨r7, q5, h⟩ := bnd_some h
    have w6 := e64 a0.to r7 q5
    try simp -implicitDefEqProofs only [go_sem, Nat.reduceLT, Nat.reduceAdd, Nat.reduceSub, Nat.reduceMul, Nat.reduceEqDiff, Nat.reduceBEq, Nat.reduceLeDiff, Int.reduceToNat, Int.reduceLT, Int.reduceLE, Int.reduceEq, reduceCtorEq, ↓reduceIte] at w6
    try simp -implicitDefEqProofs only [go_sem, Nat.reduceLT, Nat.reduceAdd, Nat.reduceSub, Nat.reduceMul, Nat.reduceEqDiff, Nat.reduceBEq, Nat.reduceLeDiff, Int.reduceToNat, Int.reduceLT, Int.reduceLE, Int.reduceEq, reduceCtorEq, ↓reduceIte, X81_1, k81_1, w2, b4, w6]
    cases b8 : (r7 : Bool)
    · replace h := br_f b8 h
      cases h
      simp -implicitDefEqProofs only [go_sem, Nat.reduceLT, Nat.reduceAdd, Nat.reduceSub, Nat.reduceMul, Nat.reduceEqDiff, Nat.reduceBEq, Nat.reduceLeDiff, Int.reduceToNat, Int.reduceLT, Int.reduceLE, Int.reduceEq, reduceCtorEq, ↓reduceIte, X81_1, k81_1, w2, b4, w6, b8]
    · replace h := br_t b8 h
      try simp -implicitDefEqProofs only [go_sem, Nat.reduceLT, Nat.reduceAdd, Nat.reduceSub, Nat.reduceMul, Nat.reduceEqDiff, Nat.reduceBEq, Nat.reduceLeDiff, Int.reduceToNat, Int.reduceLT, Int.reduceLE, Int.reduceEq, reduceCtorEq, ↓reduceIte, X81_1, k81_1, w2, b4, w6, b8]
      cases b9 : (eqI a0.from_ a0.to : Bool)
      · replace h := br_f b9 h
        obtain ⟨r12, q10, h⟩ := bnd_some h
        have w11 := e48 a0.label 0 (wsub .i64 (↑a1.apply.length : Int) 1) r12 q10
        try simp -implicitDefEqProofs only [go_sem, Nat.reduceLT, Nat.reduceAdd, Nat.reduceSub, Nat.reduceMul, Nat.reduceEqDiff, Nat.reduceBEq, Nat.reduceLeDiff, Int.reduceToNat, Int.reduceLT, Int.reduceLE, Int.reduceEq, reduceCtorEq, ↓reduceIte] at w11
        cases h
        simp -implicitDefEqProofs only [go_sem, Nat.reduceLT, Nat.reduceAdd, Nat.reduceSub, Nat.reduceMul, Nat.reduceEqDiff, Nat.reduceBEq, Nat.reduceLeDiff, Int.reduceToNat, Int.reduceLT, Int.reduceLE, Int.reduceEq, reduceCtorEq, ↓reduceIte, X81_1, k81_1, w2, b4, w6, b8, b9, w11]
      · replace h := br_t b9 h
        cases h
        simp -implicitDefEqProofs only [go_sem, Nat.reduceLT, Nat.reduceAdd, Nat.reduceSub, Nat.reduceMul, Nat.reduceEqDiff, Nat.reduceBEq, Nat.reduceLeDiff, Int.reduceToNat, Int.reduceLT, Int.reduceLE, Int.reduceEq, reduceCtorEq, ↓reduceIte, X81_1, k81_1, w2, b4, w6, b8, b9]
theorem e81 (a0 : Arc) (a1 : Algebra) (r : Bool) (h : m81 a0 a1 = some r) : evFL T 81 [.agg [.int .i64 a0.from_, .int .i64 a0.to, .int .i64 a0.label], .tp .imm 2 [[.int .i64 a1.weights, .ts .imm 1 (a1.apply.map (encLInt .imm))]] 0 0] [] = some (.bool r, []) := by
  unfold m81 at h
  rw [evFL_at fn81 (Nat.le_of_ble_eq_true rfl) rfl (.inr rfl) ⟨rfl, rfl⟩]
  obtain ⟨v15, q13, h⟩ := bnd_some h
  have w14 := e81_1 a1 a0 v15 q13
  simp only [X81_1] at w14
  try simp -implicitDefEqProofs only [go_sem, Nat.reduceLT, Nat.reduceAdd, Nat.reduceSub, Nat.reduceMul, Nat.reduceEqDiff, Nat.reduceBEq, Nat.reduceLeDiff, Int.reduceToNat, Int.reduceLT, Int.reduceLE, Int.reduceEq, reduceCtorEq, ↓reduceIte] at w14
  cases h
  simp -implicitDefEqProofs only [go_sem, Nat.reduceLT, Nat.reduceAdd, Nat.reduceSub, Nat.reduceMul, Nat.reduceEqDiff, Nat.reduceBEq, Nat.reduceLeDiff, Int.reduceToNat, Int.reduceLT, Int.reduceLE, Int.reduceEq, reduceCtorEq, ↓reduceIte, i81, c81, w14]
-- f63 impl.areArcs
theorem call63 (args : List AV) (S : St) : evCall T (evFL T) 63 args S = lendC (evFL T 63) S (lendAll S [[0, 1], [3]] args) := evCall0 fn63 rfl rfl rfl args S
theorem callz63 (args : List AV) (S : St) : evCallFz T (evFL T) 63 args S = lendZ (evFL T 63) S [[0]] (lendAll S [[0, 1], [3]] args) := evCallFz0 fn63 rfl rfl rfl args S
theorem calls63 (args : List AV) (S : St) : evCall (T.at true) (evFL T) 63 args S = lendC (evFL T 63) S (lendAll S [[0, 1], [3]] args) := evCall0 fns63 rfl rfl rfl args S
theorem callsz63 (args : List AV) (S : St) : evCallFz (T.at true) (evFL T) 63 args S = lendZ (evFL T 63) S [[0]] (lendAll S [[0, 1], [3]] args) := evCallFz0 fns63 rfl rfl rfl args S
attribute [go_sem] call63 callz63 calls63 callsz63
noncomputable def X63_1 (a1 : (List Arc)) (a0 : Algebra) (o : Bool) : Ex × Fr × St :=
  (.normal, frOf 18 (upd anyF 4 (.bool o)), [])
theorem e63_1 (a1 : (List Arc)) (a0 : Algebra) (o : Bool) (h : m63_1 a1 a0 = some o) : evCL T 0 k63_1 (frOf 18 (upd (upd anyF 1 (.ts .imm 3 (a1.map encArc))) 2 (.ptr 0 0 0))) [some ⟨.box, 2, [[.int .i64 a0.weights, .ts .imm 1 (a0.apply.map (encLInt .imm))]]⟩] = some (X63_1 a1 a0 o) := by
  unfold m63_1 at h
  obtain ⟨r3, q1, h⟩ := bnd_some h
  have w2 := e15 a0 r3 q1
  try simp -implicitDefEqProofs only [go_sem, Nat.reduceLT, Nat.reduceAdd, Nat.reduceSub, Nat.reduceMul, Nat.reduceEqDiff, Nat.reduceBEq, Nat.reduceLeDiff, Int.reduceToNat, Int.reduceLT, Int.reduceLE, Int.reduceEq, reduceCtorEq, ↓reduceIte] at w2
  try simp -implicitDefEqProofs only [go_sem, Nat.reduceLT, Nat.reduceAdd, Nat.reduceSub, Nat.reduceMul, Nat.reduceEqDiff, Nat.reduceBEq, Nat.reduceLeDiff, Int.reduceToNat, Int.reduceLT, Int.reduceLE, Int.reduceEq, reduceCtorEq, ↓reduceIte, X63_1, k63_1, w2]
  cases b4 : (r3 : Bool)
  · replace h := br_f b4 h
    cases h
    simp -implicitDefEqProofs only [go_sem, Nat.reduceLT, Nat.reduceAdd, Nat.reduceSub, Nat.reduceMul, Nat.reduceEqDiff, Nat.reduceBEq, Nat.reduceLeDiff, Int.reduceToNat, Int.reduceLT, Int.reduceLE, Int.reduceEq, reduceCtorEq, ↓reduceIte, X63_1, k63_1, w2, b4]
  · replace h := br_t b4 h
    try simp -implicitDefEqProofs only [go_sem, Nat.reduceLT, Nat.reduceAdd, Nat.reduceSub, Nat.reduceMul, Nat.reduceEqDiff, Nat.reduceBEq, Nat.reduceLeDiff, Int.reduceToNat, Int.reduceLT, Int.reduceLE, Int.reduceEq, reduceCtorEq, ↓reduceIte, X63_1, k63_1, w2, b4]
    cases b5 : (leI (↑a1.length : Int) 20 : Bool)
    · replace h := br_f b5 h
      cases h
      simp -implicitDefEqProofs only [go_sem, Nat.reduceLT, Nat.reduceAdd, Nat.reduceSub, Nat.reduceMul, Nat.reduceEqDiff, Nat.reduceBEq, Nat.reduceLeDiff, Int.reduceToNat, Int.reduceLT, Int.reduceLE, Int.reduceEq, reduceCtorEq, ↓reduceIte, X63_1, k63_1, w2, b4, b5]
    · replace h := br_t b5 h
      obtain ⟨r8, q6, h⟩ := bnd_some h
      have w7 := e80 a1 (fun y0 => m81 y0 a0) 81 [.tp .imm 2 [[.int .i64 a0.weights, .ts .imm 1 (a0.apply.map (encLInt .imm))]] 0 0] ⟨⟨fun S => by simp -implicitDefEqProofs only [go_sem, Nat.reduceLT, Nat.reduceAdd, Nat.reduceSub, Nat.reduceMul, Nat.reduceEqDiff, Nat.reduceBEq, Nat.reduceLeDiff, Int.reduceToNat, Int.reduceLT, Int.reduceLE, Int.reduceEq, reduceCtorEq, ↓reduceIte], fun _ _ _ _ _ _ => by simp -implicitDefEqProofs only [go_sem, Nat.reduceLT, Nat.reduceAdd, Nat.reduceSub, Nat.reduceMul, Nat.reduceEqDiff, Nat.reduceBEq, Nat.reduceLeDiff, Int.reduceToNat, Int.reduceLT, Int.reduceLE, Int.reduceEq, reduceCtorEq, ↓reduceIte]⟩, fun y0 r h => ⟨fun S => by simp -implicitDefEqProofs only [go_sem, Nat.reduceLT, Nat.reduceAdd, Nat.reduceSub, Nat.reduceMul, Nat.reduceEqDiff, Nat.reduceBEq, Nat.reduceLeDiff, Int.reduceToNat, Int.reduceLT, Int.reduceLE, Int.reduceEq, reduceCtorEq, ↓reduceIte, e81 y0 a0 r h], fun S => by simp -implicitDefEqProofs only [go_sem, Nat.reduceLT, Nat.reduceAdd, Nat.reduceSub, Nat.reduceMul, Nat.reduceEqDiff, Nat.reduceBEq, Nat.reduceLeDiff, Int.reduceToNat, Int.reduceLT, Int.reduceLE, Int.reduceEq, reduceCtorEq, ↓reduceIte, e81 y0 a0 r h]⟩⟩ r8 q6
      try simp -implicitDefEqProofs only [go_sem, Nat.reduceLT, Nat.reduceAdd, Nat.reduceSub, Nat.reduceMul, Nat.reduceEqDiff, Nat.reduceBEq, Nat.reduceLeDiff, Int.reduceToNat, Int.reduceLT, Int.reduceLE, Int.reduceEq, reduceCtorEq, ↓reduceIte] at w7
      cases h
      simp -implicitDefEqProofs only [go_sem, Nat.reduceLT, Nat.reduceAdd, Nat.reduceSub, Nat.reduceMul, Nat.reduceEqDiff, Nat.reduceBEq, Nat.reduceLeDiff, Int.reduceToNat, Int.reduceLT, Int.reduceLE, Int.reduceEq, reduceCtorEq, ↓reduceIte, X63_1, k63_1, w2, b4, b5, w7]
theorem e63 (a0 : Algebra) (a1 : (List Arc)) (r : Bool) (h : m63 a0 a1 = some r) : evFL T 63 [.agg [.int .i64 a0.weights, .ts .imm 1 (a0.apply.map (encLInt .imm))], .ts .imm 3 (a1.map encArc)] [] = some (.bool r, []) := by
  unfold m63 at h
  rw [evFL_at fn63 (Nat.le_of_ble_eq_true rfl) rfl (.inr rfl) ⟨rfl, rfl⟩]
  obtain ⟨v11, q9, h⟩ := bnd_some h
  have w10 := e63_1 a1 a0 v11 q9
  simp only [X63_1] at w10
  try simp -implicitDefEqProofs only [go_sem, Nat.reduceLT, Nat.reduceAdd, Nat.reduceSub, Nat.reduceMul, Nat.reduceEqDiff, Nat.reduceBEq, Nat.reduceLeDiff, Int.reduceToNat, Int.reduceLT, Int.reduceLE, Int.reduceEq, reduceCtorEq, ↓reduceIte] at w10
  cases h
  simp -implicitDefEqProofs only [go_sem, Nat.reduceLT, Nat.reduceAdd, Nat.reduceSub, Nat.reduceMul, Nat.reduceEqDiff, Nat.reduceBEq, Nat.reduceLeDiff, Int.reduceToNat, Int.reduceLT, Int.reduceLE, Int.reduceEq, reduceCtorEq, ↓reduceIte, i63, c63, w10]
-- f90 math/bits.Mul64
theorem call90 (args : List AV) (S : St) : evCall T (evFL T) 90 args S = lendC (evFL T 90) S (lendAll S [[0], [0]] args) := evCall0 fn90 rfl rfl rfl args S
theorem callz90 (args : List AV) (S : St) : evCallFz T (evFL T) 90 args S = lendZ (evFL T 90) S [[0], [0]] (lendAll S [[0], [0]] args) := evCallFz0 fn90 rfl rfl rfl args S
theorem calls90 (args : List AV) (S : St) : evCall (T.at true) (evFL T) 90 args S = lendC (evFL T 90) S (lendAll S [[0], [0]] args) := evCall0 fns90 rfl rfl rfl args S
theorem callsz90 (args : List AV) (S : St) : evCallFz (T.at true) (evFL T) 90 args S = lendZ (evFL T 90) S [[0], [0]] (lendAll S [[0], [0]] args) := evCallFz0 fns90 rfl rfl rfl args S
attribute [go_sem] call90 callz90 calls90 callsz90
theorem e90 (a0 : Int) (a1 : Int) (r : (Int × Int)) (h : m90 a0 a1 = some r) : evFL T 90 [.int .u64 a0, .int .u64 a1] [] = some (.tup [.int .u64 r.1, .int .u64 r.2], []) := by
  unfold m90 at h
  rw [evFL_at fn90 (Nat.le_of_ble_eq_true rfl) rfl (.inr rfl) ⟨rfl, rfl⟩]
  cases h
  simp -implicitDefEqProofs only [go_sem, Nat.reduceLT, Nat.reduceAdd, Nat.reduceSub, Nat.reduceMul, Nat.reduceEqDiff, Nat.reduceBEq, Nat.reduceLeDiff, Int.reduceToNat, Int.reduceLT, Int.reduceLE, Int.reduceEq, reduceCtorEq, ↓reduceIte, i90, c90]
-- f85 math/bits.Mul
theorem call85 (args : List AV) (S : St) : evCall T (evFL T) 85 args S = lendC (evFL T 85) S (lendAll S [[0], [0]] args) := evCall0 fn85 rfl rfl rfl args S
theorem callz85 (args : List AV) (S : St) : evCallFz T (evFL T) 85 args S = lendZ (evFL T 85) S [[0], [0]] (lendAll S [[0], [0]] args) := evCallFz0 fn85 rfl rfl rfl args S
theorem calls85 (args : List AV) (S : St) : evCall (T.at true) (evFL T) 85 args S = lendC (evFL T 85) S (lendAll S [[0], [0]] args) := evCall0 fns85 rfl rfl rfl args S
theorem callsz85 (args : List AV) (S : St) : evCallFz (T.at true) (evFL T) 85 args S = lendZ (evFL T 85) S [[0], [0]] (lendAll S [[0], [0]] args) := evCallFz0 fns85 rfl rfl rfl args S
attribute [go_sem] call85 callz85 calls85 callsz85
theorem e85 (a0 : Int) (a1 : Int) (r : (Int × Int)) (h : m85 a0 a1 = some r) : evFL T 85 [.int .u64 a0, .int .u64 a1] [] = some (.tup [.int .u64 r.1, .int .u64 r.2], []) := by
  unfold m85 at h
  rw [evFL_at fn85 (Nat.le_of_ble_eq_true rfl) rfl (.inr rfl) ⟨rfl, rfl⟩]
  obtain ⟨⟨r3, r4⟩, q1, h⟩ := bnd_some h
  replace h := sel2_some h
  have w2 := e90 a0 a1 (r3, r4) q1
  try simp -implicitDefEqProofs only [go_sem, Nat.reduceLT, Nat.reduceAdd, Nat.reduceSub, Nat.reduceMul, Nat.reduceEqDiff, Nat.reduceBEq, Nat.reduceLeDiff, Int.reduceToNat, Int.reduceLT, Int.reduceLE, Int.reduceEq, reduceCtorEq, ↓reduceIte] at w2
  cases h
  simp -implicitDefEqProofs only [go_sem, Nat.reduceLT, Nat.reduceAdd, Nat.reduceSub, Nat.reduceMul, Nat.reduceEqDiff, Nat.reduceBEq, Nat.reduceLeDiff, Int.reduceToNat, Int.reduceLT, Int.reduceLE, Int.reduceEq, reduceCtorEq, ↓reduceIte, i85, c85, w2]
-- f70 slices.Repeat[[]int,int]
theorem call70 (args : List AV) (S : St) : evCall T (evFL T) 70 args S = lendC (evFL T 70) S (lendAll S [[1], [0]] args) := evCall0 fn70 rfl rfl rfl args S
theorem callz70 (args : List AV) (S : St) : evCallFz T (evFL T) 70 args S = lendZ (evFL T 70) S [[1]] (lendAll S [[1], [0]] args) := evCallFz0 fn70 rfl rfl rfl args S
theorem calls70 (args : List AV) (S : St) : evCall (T.at true) (evFL T) 70 args S = lendC (evFL T 70) S (lendAll S [[1], [0]] args) := evCall0 fns70 rfl rfl rfl args S
theorem callsz70 (args : List AV) (S : St) : evCallFz (T.at true) (evFL T) 70 args S = lendZ (evFL T 70) S [[1]] (lendAll S [[1], [0]] args) := evCallFz0 fns70 rfl rfl rfl args S
attribute [go_sem] call70 callz70 calls70 callsz70
noncomputable def X70_1 (a0 : (List Int)) (r4 : Int) (r5 : Int) (o : Bool) : Ex × Fr × St :=
  (.normal, frOf 48 (upd (upd (upd anyF 0 (.ts .imm 1 (a0.map encInt))) 6 (.int .u64 r5)) 26 (.bool o)), [])
theorem e70_1 (a0 : (List Int)) (r4 : Int) (r5 : Int) (o : Bool) (h : m70_1 r4 r5 = some o) : evCL T 0 k70_1 (frOf 48 (upd (upd (upd anyF 0 (.ts .imm 1 (a0.map encInt))) 5 (.int .u64 r4)) 6 (.int .u64 r5))) [] = some (X70_1 a0 r4 r5 o) := by
  unfold m70_1 at h
  try simp -implicitDefEqProofs only [go_sem, Nat.reduceLT, Nat.reduceAdd, Nat.reduceSub, Nat.reduceMul, Nat.reduceEqDiff, Nat.reduceBEq, Nat.reduceLeDiff, Int.reduceToNat, Int.reduceLT, Int.reduceLE, Int.reduceEq, reduceCtorEq, ↓reduceIte, X70_1, k70_1]
  cases b6 : (ltI 0 r4 : Bool)
  · replace h := br_f b6 h
    cases h
    simp -implicitDefEqProofs only [go_sem, Nat.reduceLT, Nat.reduceAdd, Nat.reduceSub, Nat.reduceMul, Nat.reduceEqDiff, Nat.reduceBEq, Nat.reduceLeDiff, Int.reduceToNat, Int.reduceLT, Int.reduceLE, Int.reduceEq, reduceCtorEq, ↓reduceIte, X70_1, k70_1, b6]
  · replace h := br_t b6 h
    cases h
    simp -implicitDefEqProofs only [go_sem, Nat.reduceLT, Nat.reduceAdd, Nat.reduceSub, Nat.reduceMul, Nat.reduceEqDiff, Nat.reduceBEq, Nat.reduceLeDiff, Int.reduceToNat, Int.reduceLT, Int.reduceLE, Int.reduceEq, reduceCtorEq, ↓reduceIte, X70_1, k70_1, b6]
noncomputable def X70_2 (o : (List Int)) : Ex × Fr × St :=
  (.exit 0, frOf 48 (upd anyF 7 (.sl 0 0 o.length)), [some ⟨.arr, 1, o.map encInt⟩])
noncomputable def E70_2 (s : (Int × List Int)) : Fr × St := (frOf 48 (upd (upd anyF 7 (.sl 0 0 s.2.length)) 8 (.int .i64 s.1)), [some ⟨.arr, 1, s.2.map encInt⟩])
theorem b70_2 (s : (Int × List Int)) (o : Ctl (Int × List Int) (List Int)) (h : m70_2b s = some o) : evCL T 0 k70_2b (E70_2 s).1 (E70_2 s).2 = some (ctlX (E70_2) (X70_2) o) := by
  unfold m70_2b at h
  obtain ⟨s29, s30⟩ := s
  replace h := sel2_some h
  try simp -implicitDefEqProofs only [go_sem, Nat.reduceLT, Nat.reduceAdd, Nat.reduceSub, Nat.reduceMul, Nat.reduceEqDiff, Nat.reduceBEq, Nat.reduceLeDiff, Int.reduceToNat, Int.reduceLT, Int.reduceLE, Int.reduceEq, reduceCtorEq, ↓reduceIte, E70_2, X70_2, k70_2b]
  cases b31 : (ltI s29 (↑s30.length : Int) : Bool)
  · replace h := br_f b31 h
    cases h
    simp -implicitDefEqProofs only [go_sem, Nat.reduceLT, Nat.reduceAdd, Nat.reduceSub, Nat.reduceMul, Nat.reduceEqDiff, Nat.reduceBEq, Nat.reduceLeDiff, Int.reduceToNat, Int.reduceLT, Int.reduceLE, Int.reduceEq, reduceCtorEq, ↓reduceIte, E70_2, X70_2, k70_2b, b31]
  · replace h := br_t b31 h
    obtain ⟨g32, h⟩ := ck_some h
    try simp -implicitDefEqProofs only [go_sem, Nat.reduceLT, Nat.reduceAdd, Nat.reduceSub, Nat.reduceMul, Nat.reduceEqDiff, Nat.reduceBEq, Nat.reduceLeDiff, Int.reduceToNat, Int.reduceLT, Int.reduceLE, Int.reduceEq, reduceCtorEq, ↓reduceIte] at g32
    have g33 : s29.toNat + (s30.length - s29.toNat) ≤ s30.length := by (try simp only [List.length_take, List.length_drop, List.length_append, List.length_set, List.length_cons, List.length_nil]); omega
    obtain ⟨g34, h⟩ := ck_some h
    try simp -implicitDefEqProofs only [go_sem, Nat.reduceLT, Nat.reduceAdd, Nat.reduceSub, Nat.reduceMul, Nat.reduceEqDiff, Nat.reduceBEq, Nat.reduceLeDiff, Int.reduceToNat, Int.reduceLT, Int.reduceLE, Int.reduceEq, reduceCtorEq, ↓reduceIte] at g34
    have g35 : 0 + (s29.toNat) ≤ s30.length := by (try simp only [List.length_take, List.length_drop, List.length_append, List.length_set, List.length_cons, List.length_nil]); omega
    have g36 : s29.toNat ≤ s30.length := by (try simp only [List.length_take, List.length_drop, List.length_append, List.length_set, List.length_cons, List.length_nil]); omega
    obtain ⟨v38, q37, h⟩ := bnd_some h
    obtain ⟨g39, g40, g41⟩ := cpy_row encInt q37
    try simp -implicitDefEqProofs only [go_sem, Nat.reduceLT, Nat.reduceAdd, Nat.reduceSub, Nat.reduceMul, Nat.reduceEqDiff, Nat.reduceBEq, Nat.reduceLeDiff, Int.reduceToNat, Int.reduceLT, Int.reduceLE, Int.reduceEq, reduceCtorEq, ↓reduceIte, g33, g35, g36] at g41
    cases h
    simp -implicitDefEqProofs only [go_sem, Nat.reduceLT, Nat.reduceAdd, Nat.reduceSub, Nat.reduceMul, Nat.reduceEqDiff, Nat.reduceBEq, Nat.reduceLeDiff, Int.reduceToNat, Int.reduceLT, Int.reduceLE, Int.reduceEq, reduceCtorEq, ↓reduceIte, E70_2, X70_2, k70_2b, b31, g32, g33, g34, g35, g36, g39, g40, g41]
theorem e70_2 (s : (Int × List Int)) (o : (List Int)) (h : loopP (m70_2b) s = some o) : evCL T 0 (.loop k70_2b) (E70_2 s).1 (E70_2 s).2 = some (X70_2 o) :=
  loop_walk (E := E70_2) (X := X70_2) (by intro b; (simp only [X70_2]; nofun)) (b70_2) s o h
theorem e70 (a0 : (List Int)) (a1 : Int) (r : (List Int)) (h : m70 a0 a1 = some r) : evFL T 70 [.ts .imm 1 (a0.map encInt), .int .i64 a1] [] = some (.sl 0 0 r.length, [some ⟨.arr, 1, r.map encInt⟩]) := by
  unfold m70 at h
  rw [evFL_at fn70 (Nat.le_of_ble_eq_true rfl) rfl (.inr rfl) ⟨rfl, rfl⟩]
  try simp -implicitDefEqProofs only [go_sem, Nat.reduceLT, Nat.reduceAdd, Nat.reduceSub, Nat.reduceMul, Nat.reduceEqDiff, Nat.reduceBEq, Nat.reduceLeDiff, Int.reduceToNat, Int.reduceLT, Int.reduceLE, Int.reduceEq, reduceCtorEq, ↓reduceIte, i70, c70]
  cases b1 : (ltI a1 0 : Bool)
  · replace h := br_f b1 h
    obtain ⟨⟨r4, r5⟩, q2, h⟩ := bnd_some h
    replace h := sel2_some h
    have w3 := e85 (wcv .u64 (↑a0.length : Int)) (wcv .u64 a1) (r4, r5) q2
    try simp -implicitDefEqProofs only [go_sem, Nat.reduceLT, Nat.reduceAdd, Nat.reduceSub, Nat.reduceMul, Nat.reduceEqDiff, Nat.reduceBEq, Nat.reduceLeDiff, Int.reduceToNat, Int.reduceLT, Int.reduceLE, Int.reduceEq, reduceCtorEq, ↓reduceIte] at w3
    obtain ⟨v9, q7, h⟩ := bnd_some h
    have w8 := e70_1 a0 r4 r5 v9 q7
    simp only [X70_1] at w8
    try simp -implicitDefEqProofs only [go_sem, Nat.reduceLT, Nat.reduceAdd, Nat.reduceSub, Nat.reduceMul, Nat.reduceEqDiff, Nat.reduceBEq, Nat.reduceLeDiff, Int.reduceToNat, Int.reduceLT, Int.reduceLE, Int.reduceEq, reduceCtorEq, ↓reduceIte] at w8
    try simp -implicitDefEqProofs only [go_sem, Nat.reduceLT, Nat.reduceAdd, Nat.reduceSub, Nat.reduceMul, Nat.reduceEqDiff, Nat.reduceBEq, Nat.reduceLeDiff, Int.reduceToNat, Int.reduceLT, Int.reduceLE, Int.reduceEq, reduceCtorEq, ↓reduceIte, i70, c70, b1, w3, w8]
    cases b10 : (v9 : Bool)
    · replace h := br_f b10 h
      obtain ⟨g11, h⟩ := ck_some h
      try simp -implicitDefEqProofs only [go_sem, Nat.reduceLT, Nat.reduceAdd, Nat.reduceSub, Nat.reduceMul, Nat.reduceEqDiff, Nat.reduceBEq, Nat.reduceLeDiff, Int.reduceToNat, Int.reduceLT, Int.reduceLE, Int.reduceEq, reduceCtorEq, ↓reduceIte] at g11
      obtain ⟨v13, q12, h⟩ := bnd_some h
      obtain ⟨g14, g15, g16⟩ := cpy_row encInt q12
      try simp -implicitDefEqProofs only [go_sem, Nat.reduceLT, Nat.reduceAdd, Nat.reduceSub, Nat.reduceMul, Nat.reduceEqDiff, Nat.reduceBEq, Nat.reduceLeDiff, Int.reduceToNat, Int.reduceLT, Int.reduceLE, Int.reduceEq, reduceCtorEq, ↓reduceIte] at g16
      obtain ⟨v44, q42, h⟩ := bnd_some h
      have w43 := e70_2 ((↑(min a0.length ((List.replicate ((wcv .i64 r5).toNat) 0).length)) : Int), v13) v44 q42
      simp only [E70_2, X70_2] at w43
      try simp -implicitDefEqProofs only [go_sem, Nat.reduceLT, Nat.reduceAdd, Nat.reduceSub, Nat.reduceMul, Nat.reduceEqDiff, Nat.reduceBEq, Nat.reduceLeDiff, Int.reduceToNat, Int.reduceLT, Int.reduceLE, Int.reduceEq, reduceCtorEq, ↓reduceIte, g15, g16] at w43
      cases h
      simp -implicitDefEqProofs only [go_sem, Nat.reduceLT, Nat.reduceAdd, Nat.reduceSub, Nat.reduceMul, Nat.reduceEqDiff, Nat.reduceBEq, Nat.reduceLeDiff, Int.reduceToNat, Int.reduceLT, Int.reduceLE, Int.reduceEq, reduceCtorEq, ↓reduceIte, i70, c70, b1, w3, w8, b10, g11, g14, g15, g16, w43]
    · replace h := br_t b10 h
      cases h
  · replace h := br_t b1 h
    cases h
-- f84 impl.labelOf$1
theorem call84 (args : List AV) (S : St) : evCall T (evFL T) 84 args S = lendC (evFL T 84) S (lendAll S [[0, 0, 0], [0], [0]] args) := evCall0 fn84 rfl rfl rfl args S
theorem callz84 (args : List AV) (S : St) : evCallFz T (evFL T) 84 args S = lendZ (evFL T 84) S [[0]] (lendAll S [[0, 0, 0], [0], [0]] args) := evCallFz0 fn84 rfl rfl rfl args S
theorem calls84 (args : List AV) (S : St) : evCall (T.at true) (evFL T) 84 args S = lendC (evFL T 84) S (lendAll S [[0, 0, 0], [0], [0]] args) := evCall0 fns84 rfl rfl rfl args S
theorem callsz84 (args : List AV) (S : St) : evCallFz (T.at true) (evFL T) 84 args S = lendZ (evFL T 84) S [[0]] (lendAll S [[0, 0, 0], [0], [0]] args) := evCallFz0 fns84 rfl rfl rfl args S
attribute [go_sem] call84 callz84 calls84 callsz84
noncomputable def X84_1 (a1 : Int) (a2 : Int) (a0 : Arc) (o : Bool) : Ex × Fr × St :=
  (.normal, frOf 15 (upd anyF 4 (.bool o)), [])
theorem e84_1 (a1 : Int) (a2 : Int) (a0 : Arc) (o : Bool) (h : m84_1 a1 a2 a0 = some o) : evCL T 0 k84_1 (frOf 15 (upd (upd (upd anyF 1 (.tp .imm 1 [[.int .i64 a1]] 0 0)) 2 (.tp .imm 1 [[.int .i64 a2]] 0 0)) 3 (.ptr 0 0 0))) [some ⟨.box, 3, [[.int .i64 a0.from_, .int .i64 a0.to, .int .i64 a0.label]]⟩] = some (X84_1 a1 a2 a0 o) := by
  unfold m84_1 at h
  try simp -implicitDefEqProofs only [go_sem, Nat.reduceLT, Nat.reduceAdd, Nat.reduceSub, Nat.reduceMul, Nat.reduceEqDiff, Nat.reduceBEq, Nat.reduceLeDiff, Int.reduceToNat, Int.reduceLT, Int.reduceLE, Int.reduceEq, reduceCtorEq, ↓reduceIte, X84_1, k84_1]
  cases b1 : (eqI a0.from_ a1 : Bool)
  · replace h := br_f b1 h
    cases h
    simp -implicitDefEqProofs only [go_sem, Nat.reduceLT, Nat.reduceAdd, Nat.reduceSub, Nat.reduceMul, Nat.reduceEqDiff, Nat.reduceBEq, Nat.reduceLeDiff, Int.reduceToNat, Int.reduceLT, Int.reduceLE, Int.reduceEq, reduceCtorEq, ↓reduceIte, X84_1, k84_1, b1]
  · replace h := br_t b1 h
    cases h
    simp -implicitDefEqProofs only [go_sem, Nat.reduceLT, Nat.reduceAdd, Nat.reduceSub, Nat.reduceMul, Nat.reduceEqDiff, Nat.reduceBEq, Nat.reduceLeDiff, Int.reduceToNat, Int.reduceLT, Int.reduceLE, Int.reduceEq, reduceCtorEq, ↓reduceIte, X84_1, k84_1, b1]
theorem e84 (a0 : Arc) (a1 : Int) (a2 : Int) (r : Bool) (h : m84 a0 a1 a2 = some r) : evFL T 84 [.agg [.int .i64 a0.from_, .int .i64 a0.to, .int .i64 a0.label], .tp .imm 1 [[.int .i64 a1]] 0 0, .tp .imm 1 [[.int .i64 a2]] 0 0] [] = some (.bool r, []) := by
  unfold m84 at h
  rw [evFL_at fn84 (Nat.le_of_ble_eq_true rfl) rfl (.inr rfl) ⟨rfl, rfl⟩]
  obtain ⟨v4, q2, h⟩ := bnd_some h
  have w3 := e84_1 a1 a2 a0 v4 q2
  simp only [X84_1] at w3
  try simp -implicitDefEqProofs only [go_sem, Nat.reduceLT, Nat.reduceAdd, Nat.reduceSub, Nat.reduceMul, Nat.reduceEqDiff, Nat.reduceBEq, Nat.reduceLeDiff, Int.reduceToNat, Int.reduceLT, Int.reduceLE, Int.reduceEq, reduceCtorEq, ↓reduceIte] at w3
  cases h
  simp -implicitDefEqProofs only [go_sem, Nat.reduceLT, Nat.reduceAdd, Nat.reduceSub, Nat.reduceMul, Nat.reduceEqDiff, Nat.reduceBEq, Nat.reduceLeDiff, Int.reduceToNat, Int.reduceLT, Int.reduceLE, Int.reduceEq, reduceCtorEq, ↓reduceIte, i84, c84, w3]
-- f66 impl.labelOf
theorem call66 (args : List AV) (S : St) : evCall T (evFL T) 66 args S = lendC (evFL T 66) S (lendAll S [[3], [0], [0]] args) := evCall0 fn66 rfl rfl rfl args S
theorem callz66 (args : List AV) (S : St) : evCallFz T (evFL T) 66 args S = lendZ (evFL T 66) S [[0], [0]] (lendAll S [[3], [0], [0]] args) := evCallFz0 fn66 rfl rfl rfl args S
theorem calls66 (args : List AV) (S : St) : evCall (T.at true) (evFL T) 66 args S = lendC (evFL T 66) S (lendAll S [[3], [0], [0]] args) := evCall0 fns66 rfl rfl rfl args S
theorem callsz66 (args : List AV) (S : St) : evCallFz (T.at true) (evFL T) 66 args S = lendZ (evFL T 66) S [[0], [0]] (lendAll S [[3], [0], [0]] args) := evCallFz0 fns66 rfl rfl rfl args S
attribute [go_sem] call66 callz66 calls66 callsz66
theorem e66 (a0 : (List Arc)) (a1 : Int) (a2 : Int) (r : (Int × Bool)) (h : m66 a0 a1 a2 = some r) : evFL T 66 [.ts .imm 3 (a0.map encArc), .int .i64 a1, .int .i64 a2] [] = some (.tup [.int .i64 r.1, .bool r.2], []) := by
  unfold m66 at h
  rw [evFL_at fn66 (Nat.le_of_ble_eq_true rfl) rfl (.inr rfl) ⟨rfl, rfl⟩]
  obtain ⟨r3, q1, h⟩ := bnd_some h
  have w2 := e83 a0 (fun y0 => m84 y0 a1 a2) 84 [.tp .imm 1 [[.int .i64 a1]] 0 0, .tp .imm 1 [[.int .i64 a2]] 0 0] ⟨⟨fun S => by simp -implicitDefEqProofs only [go_sem, Nat.reduceLT, Nat.reduceAdd, Nat.reduceSub, Nat.reduceMul, Nat.reduceEqDiff, Nat.reduceBEq, Nat.reduceLeDiff, Int.reduceToNat, Int.reduceLT, Int.reduceLE, Int.reduceEq, reduceCtorEq, ↓reduceIte], fun _ _ _ _ _ _ => by simp -implicitDefEqProofs only [go_sem, Nat.reduceLT, Nat.reduceAdd, Nat.reduceSub, Nat.reduceMul, Nat.reduceEqDiff, Nat.reduceBEq, Nat.reduceLeDiff, Int.reduceToNat, Int.reduceLT, Int.reduceLE, Int.reduceEq, reduceCtorEq, ↓reduceIte]⟩, fun y0 r h => ⟨fun S => by simp -implicitDefEqProofs only [go_sem, Nat.reduceLT, Nat.reduceAdd, Nat.reduceSub, Nat.reduceMul, Nat.reduceEqDiff, Nat.reduceBEq, Nat.reduceLeDiff, Int.reduceToNat, Int.reduceLT, Int.reduceLE, Int.reduceEq, reduceCtorEq, ↓reduceIte, e84 y0 a1 a2 r h], fun S => by simp -implicitDefEqProofs only [go_sem, Nat.reduceLT, Nat.reduceAdd, Nat.reduceSub, Nat.reduceMul, Nat.reduceEqDiff, Nat.reduceBEq, Nat.reduceLeDiff, Int.reduceToNat, Int.reduceLT, Int.reduceLE, Int.reduceEq, reduceCtorEq, ↓reduceIte, e84 y0 a1 a2 r h]⟩⟩ r3 q1
  try simp -implicitDefEqProofs only [go_sem, Nat.reduceLT, Nat.reduceAdd, Nat.reduceSub, Nat.reduceMul, Nat.reduceEqDiff, Nat.reduceBEq, Nat.reduceLeDiff, Int.reduceToNat, Int.reduceLT, Int.reduceLE, Int.reduceEq, reduceCtorEq, ↓reduceIte] at w2
  try simp -implicitDefEqProofs only [go_sem, Nat.reduceLT, Nat.reduceAdd, Nat.reduceSub, Nat.reduceMul, Nat.reduceEqDiff, Nat.reduceBEq, Nat.reduceLeDiff, Int.reduceToNat, Int.reduceLT, Int.reduceLE, Int.reduceEq, reduceCtorEq, ↓reduceIte, i66, c66, w2]
  cases b4 : (ltI r3 0 : Bool)
  · replace h := br_f b4 h
    obtain ⟨x5, q6, h⟩ := bnd_some h
    obtain ⟨g7, g8, g9⟩ := idx_row encArc q6
    try simp -implicitDefEqProofs only [go_sem, Nat.reduceLT, Nat.reduceAdd, Nat.reduceSub, Nat.reduceMul, Nat.reduceEqDiff, Nat.reduceBEq, Nat.reduceLeDiff, Int.reduceToNat, Int.reduceLT, Int.reduceLE, Int.reduceEq, reduceCtorEq, ↓reduceIte] at g8
    try simp -implicitDefEqProofs only [go_sem, Nat.reduceLT, Nat.reduceAdd, Nat.reduceSub, Nat.reduceMul, Nat.reduceEqDiff, Nat.reduceBEq, Nat.reduceLeDiff, Int.reduceToNat, Int.reduceLT, Int.reduceLE, Int.reduceEq, reduceCtorEq, ↓reduceIte] at g9
    cases h
    simp -implicitDefEqProofs only [go_sem, Nat.reduceLT, Nat.reduceAdd, Nat.reduceSub, Nat.reduceMul, Nat.reduceEqDiff, Nat.reduceBEq, Nat.reduceLeDiff, Int.reduceToNat, Int.reduceLT, Int.reduceLE, Int.reduceEq, reduceCtorEq, ↓reduceIte, i66, c66, w2, b4, g7, g8, g9]
  · replace h := br_t b4 h
    cases h
    simp -implicitDefEqProofs only [go_sem, Nat.reduceLT, Nat.reduceAdd, Nat.reduceSub, Nat.reduceMul, Nat.reduceEqDiff, Nat.reduceBEq, Nat.reduceLeDiff, Int.reduceToNat, Int.reduceLT, Int.reduceLE, Int.reduceEq, reduceCtorEq, ↓reduceIte, i66, c66, w2, b4]
-- f38 impl.BestTo
theorem call38 (args : List AV) (S : St) : evCall T (evFL T) 38 args S = lendC (evFL T 38) S (lendAll S [[0, 1], [3], [0]] args) := evCall0 fn38 rfl rfl rfl args S
theorem callz38 (args : List AV) (S : St) : evCallFz T (evFL T) 38 args S = lendZ (evFL T 38) S [[1], [0]] (lendAll S [[0, 1], [3], [0]] args) := evCallFz0 fn38 rfl rfl rfl args S
theorem calls38 (args : List AV) (S : St) : evCall (T.at true) (evFL T) 38 args S = lendC (evFL T 38) S (lendAll S [[0, 1], [3], [0]] args) := evCall0 fns38 rfl rfl rfl args S
theorem callsz38 (args : List AV) (S : St) : evCallFz (T.at true) (evFL T) 38 args S = lendZ (evFL T 38) S [[1], [0]] (lendAll S [[0, 1], [3], [0]] args) := evCallFz0 fns38 rfl rfl rfl args S
attribute [go_sem] call38 callz38 calls38 callsz38
noncomputable def X38_1 (a1 : (List Arc)) (a2 : Int) (a0 : Algebra) (o : Bool) : Ex × Fr × St :=
  (.normal, frOf 104 (upd (upd (upd (upd anyF 1 (.ts .imm 3 (a1.map encArc))) 2 (.int .i64 a2)) 3 (.ptr 0 0 0)) 24 (.bool o)), [some ⟨.box, 2, [[.int .i64 a0.weights, .ts .imm 1 (a0.apply.map (encLInt .imm))]]⟩])
theorem e38_1 (a1 : (List Arc)) (a2 : Int) (a0 : Algebra) (o : Bool) (h : m38_1 a1 a2 a0 = some o) : evCL T 0 k38_1 (frOf 104 (upd (upd (upd anyF 1 (.ts .imm 3 (a1.map encArc))) 2 (.int .i64 a2)) 3 (.ptr 0 0 0))) [some ⟨.box, 2, [[.int .i64 a0.weights, .ts .imm 1 (a0.apply.map (encLInt .imm))]]⟩] = some (X38_1 a1 a2 a0 o) := by
  unfold m38_1 at h
  obtain ⟨r3, q1, h⟩ := bnd_some h
  have w2 := e63 a0 a1 r3 q1
  try simp -implicitDefEqProofs only [go_sem, Nat.reduceLT, Nat.reduceAdd, Nat.reduceSub, Nat.reduceMul, Nat.reduceEqDiff, Nat.reduceBEq, Nat.reduceLeDiff, Int.reduceToNat, Int.reduceLT, Int.reduceLE, Int.reduceEq, reduceCtorEq, ↓reduceIte] at w2
  try simp -implicitDefEqProofs only [go_sem, Nat.reduceLT, Nat.reduceAdd, Nat.reduceSub, Nat.reduceMul, Nat.reduceEqDiff, Nat.reduceBEq, Nat.reduceLeDiff, Int.reduceToNat, Int.reduceLT, Int.reduceLE, Int.reduceEq, reduceCtorEq, ↓reduceIte, X38_1, k38_1, w2]
  cases b4 : (r3 : Bool)
  · replace h := br_f b4 h
    cases h
    simp -implicitDefEqProofs only [go_sem, Nat.reduceLT, Nat.reduceAdd, Nat.reduceSub, Nat.reduceMul, Nat.reduceEqDiff, Nat.reduceBEq, Nat.reduceLeDiff, Int.reduceToNat, Int.reduceLT, Int.reduceLE, Int.reduceEq, reduceCtorEq, ↓reduceIte, X38_1, k38_1, w2, b4]
  · replace h := br_t b4 h
    obtain ⟨r7, q5, h⟩ := bnd_some h
    have w6 := e64 a2 r7 q5
    try simp -implicitDefEqProofs only [go_sem, Nat.reduceLT, Nat.reduceAdd, Nat.reduceSub, Nat.reduceMul, Nat.reduceEqDiff, Nat.reduceBEq, Nat.reduceLeDiff, Int.reduceToNat, Int.reduceLT, Int.reduceLE, Int.reduceEq, reduceCtorEq, ↓reduceIte] at w6
    cases h
    simp -implicitDefEqProofs only [go_sem, Nat.reduceLT, Nat.reduceAdd, Nat.reduceSub, Nat.reduceMul, Nat.reduceEqDiff, Nat.reduceBEq, Nat.reduceLeDiff, Int.reduceToNat, Int.reduceLT, Int.reduceLE, Int.reduceEq, reduceCtorEq, ↓reduceIte, X38_1, k38_1, w2, b4, w6]
noncomputable def X38_16 (a1 : (List Arc)) (s200 : Int) (s201 : Int) (x203 : Int) (s170 : Int) (p174 : Int) (a0 : Algebra) (s171 : List Int) (s172 : List Bool) (o : Bool) : Ex × Fr × St :=
  (.normal, frOf 104 (upd (upd (upd (upd (upd (upd (upd (upd (upd (upd (upd anyF 1 (.ts .imm 3 (a1.map encArc))) 3 (.ptr 0 0 0)) 8 (.sl 1 0 s171.length)) 9 (.sl 2 0 s172.length)) 10 (.int .i64 s200)) 11 (.int .i64 s201)) 33 (.int .i64 s170)) 35 (.sl 1 0 s171.length)) 36 (.int .i64 p174)) 37 (.int .i64 s201)) 58 (.bool o)), [some ⟨.box, 2, [[.int .i64 a0.weights, .ts .imm 1 (a0.apply.map (encLInt .imm))]]⟩, some ⟨.arr, 1, s171.map encInt⟩, some ⟨.arr, 1, s172.map encBool⟩])
theorem e38_16 (a1 : (List Arc)) (s200 : Int) (s201 : Int) (x203 : Int) (s170 : Int) (p174 : Int) (a0 : Algebra) (s171 : List Int) (s172 : List Bool) (o : Bool) (h : m38_16 s200 s201 x203 s171 s172 = some o) : evCL T 0 k38_16 (frOf 104 (upd (upd (upd (upd (upd (upd (upd (upd (upd (upd (upd anyF 1 (.ts .imm 3 (a1.map encArc))) 3 (.ptr 0 0 0)) 8 (.sl 1 0 s171.length)) 9 (.sl 2 0 s172.length)) 10 (.int .i64 s200)) 11 (.int .i64 s201)) 12 (.int .i64 x203)) 33 (.int .i64 s170)) 35 (.sl 1 0 s171.length)) 36 (.int .i64 p174)) 37 (.int .i64 s201))) [some ⟨.box, 2, [[.int .i64 a0.weights, .ts .imm 1 (a0.apply.map (encLInt .imm))]]⟩, some ⟨.arr, 1, s171.map encInt⟩, some ⟨.arr, 1, s172.map encBool⟩] = some (X38_16 a1 s200 s201 x203 s170 p174 a0 s171 s172 o) := by
  unfold m38_16 at h
  obtain ⟨x208, q209, h⟩ := bnd_some h
  obtain ⟨g210, g211, g212⟩ := idx_row encBool q209
  try simp -implicitDefEqProofs only [go_sem, Nat.reduceLT, Nat.reduceAdd, Nat.reduceSub, Nat.reduceMul, Nat.reduceEqDiff, Nat.reduceBEq, Nat.reduceLeDiff, Int.reduceToNat, Int.reduceLT, Int.reduceLE, Int.reduceEq, reduceCtorEq, ↓reduceIte] at g211
  try simp -implicitDefEqProofs only [go_sem, Nat.reduceLT, Nat.reduceAdd, Nat.reduceSub, Nat.reduceMul, Nat.reduceEqDiff, Nat.reduceBEq, Nat.reduceLeDiff, Int.reduceToNat, Int.reduceLT, Int.reduceLE, Int.reduceEq, reduceCtorEq, ↓reduceIte] at g212
  try simp -implicitDefEqProofs only [go_sem, Nat.reduceLT, Nat.reduceAdd, Nat.reduceSub, Nat.reduceMul, Nat.reduceEqDiff, Nat.reduceBEq, Nat.reduceLeDiff, Int.reduceToNat, Int.reduceLT, Int.reduceLE, Int.reduceEq, reduceCtorEq, ↓reduceIte, X38_16, k38_16, g210, g211, g212]
  cases b213 : (x208 : Bool)
  · replace h := br_f b213 h
    try simp -implicitDefEqProofs only [go_sem, Nat.reduceLT, Nat.reduceAdd, Nat.reduceSub, Nat.reduceMul, Nat.reduceEqDiff, Nat.reduceBEq, Nat.reduceLeDiff, Int.reduceToNat, Int.reduceLT, Int.reduceLE, Int.reduceEq, reduceCtorEq, ↓reduceIte, X38_16, k38_16, g210, g211, g212, b213]
    cases b214 : (ltI s200 0 : Bool)
    · replace h := br_f b214 h
      obtain ⟨x215, q216, h⟩ := bnd_some h
      obtain ⟨g217, g218, g219⟩ := idx_row encInt q216
      try simp -implicitDefEqProofs only [go_sem, Nat.reduceLT, Nat.reduceAdd, Nat.reduceSub, Nat.reduceMul, Nat.reduceEqDiff, Nat.reduceBEq, Nat.reduceLeDiff, Int.reduceToNat, Int.reduceLT, Int.reduceLE, Int.reduceEq, reduceCtorEq, ↓reduceIte] at g218
      try simp -implicitDefEqProofs only [go_sem, Nat.reduceLT, Nat.reduceAdd, Nat.reduceSub, Nat.reduceMul, Nat.reduceEqDiff, Nat.reduceBEq, Nat.reduceLeDiff, Int.reduceToNat, Int.reduceLT, Int.reduceLE, Int.reduceEq, reduceCtorEq, ↓reduceIte] at g219
      cases h
      simp -implicitDefEqProofs only [go_sem, Nat.reduceLT, Nat.reduceAdd, Nat.reduceSub, Nat.reduceMul, Nat.reduceEqDiff, Nat.reduceBEq, Nat.reduceLeDiff, Int.reduceToNat, Int.reduceLT, Int.reduceLE, Int.reduceEq, reduceCtorEq, ↓reduceIte, X38_16, k38_16, g210, g211, g212, b213, b214, g217, g218, g219]
    · replace h := br_t b214 h
      cases h
      simp -implicitDefEqProofs only [go_sem, Nat.reduceLT, Nat.reduceAdd, Nat.reduceSub, Nat.reduceMul, Nat.reduceEqDiff, Nat.reduceBEq, Nat.reduceLeDiff, Int.reduceToNat, Int.reduceLT, Int.reduceLE, Int.reduceEq, reduceCtorEq, ↓reduceIte, X38_16, k38_16, g210, g211, g212, b213, b214]
  · replace h := br_t b213 h
    cases h
    simp -implicitDefEqProofs only [go_sem, Nat.reduceLT, Nat.reduceAdd, Nat.reduceSub, Nat.reduceMul, Nat.reduceEqDiff, Nat.reduceBEq, Nat.reduceLeDiff, Int.reduceToNat, Int.reduceLT, Int.reduceLE, Int.reduceEq, reduceCtorEq, ↓reduceIte, X38_16, k38_16, g210, g211, g212, b213]
noncomputable def X38_17 (a1 : (List Arc)) (s200 : Int) (s201 : Int) (s170 : Int) (p174 : Int) (v222 : Bool) (a0 : Algebra) (s171 : List Int) (s172 : List Bool) (o : Int) : Ex × Fr × St :=
  (.normal, frOf 104 (upd (upd (upd (upd (upd (upd (upd (upd (upd anyF 1 (.ts .imm 3 (a1.map encArc))) 3 (.ptr 0 0 0)) 8 (.sl 1 0 s171.length)) 9 (.sl 2 0 s172.length)) 10 (.int .i64 o)) 33 (.int .i64 s170)) 35 (.sl 1 0 s171.length)) 36 (.int .i64 p174)) 37 (.int .i64 s201)), [some ⟨.box, 2, [[.int .i64 a0.weights, .ts .imm 1 (a0.apply.map (encLInt .imm))]]⟩, some ⟨.arr, 1, s171.map encInt⟩, some ⟨.arr, 1, s172.map encBool⟩])
theorem e38_17 (a1 : (List Arc)) (s200 : Int) (s201 : Int) (s170 : Int) (p174 : Int) (v222 : Bool) (a0 : Algebra) (s171 : List Int) (s172 : List Bool) (o : Int) (h : m38_17 s200 s201 v222 = some o) : evCL T 0 k38_17 (frOf 104 (upd (upd (upd (upd (upd (upd (upd (upd (upd (upd (upd anyF 1 (.ts .imm 3 (a1.map encArc))) 3 (.ptr 0 0 0)) 8 (.sl 1 0 s171.length)) 9 (.sl 2 0 s172.length)) 10 (.int .i64 s200)) 11 (.int .i64 s201)) 33 (.int .i64 s170)) 35 (.sl 1 0 s171.length)) 36 (.int .i64 p174)) 37 (.int .i64 s201)) 58 (.bool v222))) [some ⟨.box, 2, [[.int .i64 a0.weights, .ts .imm 1 (a0.apply.map (encLInt .imm))]]⟩, some ⟨.arr, 1, s171.map encInt⟩, some ⟨.arr, 1, s172.map encBool⟩] = some (X38_17 a1 s200 s201 s170 p174 v222 a0 s171 s172 o) := by
  unfold m38_17 at h
  try simp -implicitDefEqProofs only [go_sem, Nat.reduceLT, Nat.reduceAdd, Nat.reduceSub, Nat.reduceMul, Nat.reduceEqDiff, Nat.reduceBEq, Nat.reduceLeDiff, Int.reduceToNat, Int.reduceLT, Int.reduceLE, Int.reduceEq, reduceCtorEq, ↓reduceIte, X38_17, k38_17]
  cases b223 : (v222 : Bool)
  · replace h := br_f b223 h
    cases h
    simp -implicitDefEqProofs only [go_sem, Nat.reduceLT, Nat.reduceAdd, Nat.reduceSub, Nat.reduceMul, Nat.reduceEqDiff, Nat.reduceBEq, Nat.reduceLeDiff, Int.reduceToNat, Int.reduceLT, Int.reduceLE, Int.reduceEq, reduceCtorEq, ↓reduceIte, X38_17, k38_17, b223]
  · replace h := br_t b223 h
    cases h
    simp -implicitDefEqProofs only [go_sem, Nat.reduceLT, Nat.reduceAdd, Nat.reduceSub, Nat.reduceMul, Nat.reduceEqDiff, Nat.reduceBEq, Nat.reduceLeDiff, Int.reduceToNat, Int.reduceLT, Int.reduceLE, Int.reduceEq, reduceCtorEq, ↓reduceIte, X38_17, k38_17, b223]
noncomputable def X38_13 (a1 : (List Arc)) (s170 : Int) (p174 : Int) (a0 : Algebra) (s171 : List Int) (s172 : List Bool) (o : Int) : Ex × Fr × St :=
  (.exit 2, frOf 104 (upd (upd (upd (upd (upd (upd anyF 1 (.ts .imm 3 (a1.map encArc))) 3 (.ptr 0 0 0)) 8 (.sl 1 0 s171.length)) 9 (.sl 2 0 s172.length)) 10 (.int .i64 o)) 33 (.int .i64 s170)), [some ⟨.box, 2, [[.int .i64 a0.weights, .ts .imm 1 (a0.apply.map (encLInt .imm))]]⟩, some ⟨.arr, 1, s171.map encInt⟩, some ⟨.arr, 1, s172.map encBool⟩])
noncomputable def E38_13 (a1 : (List Arc)) (s170 : Int) (p174 : Int) (a0 : Algebra) (s171 : List Int) (s172 : List Bool) (s : (Int × Int)) : Fr × St := (frOf 104 (upd (upd (upd (upd (upd (upd (upd (upd (upd anyF 1 (.ts .imm 3 (a1.map encArc))) 3 (.ptr 0 0 0)) 8 (.sl 1 0 s171.length)) 9 (.sl 2 0 s172.length)) 10 (.int .i64 s.1)) 33 (.int .i64 s170)) 35 (.sl 1 0 s171.length)) 36 (.int .i64 p174)) 37 (.int .i64 s.2)), [some ⟨.box, 2, [[.int .i64 a0.weights, .ts .imm 1 (a0.apply.map (encLInt .imm))]]⟩, some ⟨.arr, 1, s171.map encInt⟩, some ⟨.arr, 1, s172.map encBool⟩])
theorem b38_13 (a1 : (List Arc)) (s170 : Int) (p174 : Int) (a0 : Algebra) (s171 : List Int) (s172 : List Bool) (s : (Int × Int)) (o : Ctl (Int × Int) Int) (h : m38_13b p174 s171 s172 s = some o) : evCL T 0 k38_13b (E38_13 a1 s170 p174 a0 s171 s172 s).1 (E38_13 a1 s170 p174 a0 s171 s172 s).2 = some (ctlX (E38_13 a1 s170 p174 a0 s171 s172) (X38_13 a1 s170 p174 a0 s171 s172) o) := by
  unfold m38_13b at h
  obtain ⟨s200, s201⟩ := s
  replace h := sel2_some h
  try simp -implicitDefEqProofs only [go_sem, Nat.reduceLT, Nat.reduceAdd, Nat.reduceSub, Nat.reduceMul, Nat.reduceEqDiff, Nat.reduceBEq, Nat.reduceLeDiff, Int.reduceToNat, Int.reduceLT, Int.reduceLE, Int.reduceEq, reduceCtorEq, ↓reduceIte, E38_13, X38_13, k38_13b]
  cases b202 : (ltI s201 p174 : Bool)
  · replace h := br_f b202 h
    cases h
    simp -implicitDefEqProofs only [go_sem, Nat.reduceLT, Nat.reduceAdd, Nat.reduceSub, Nat.reduceMul, Nat.reduceEqDiff, Nat.reduceBEq, Nat.reduceLeDiff, Int.reduceToNat, Int.reduceLT, Int.reduceLE, Int.reduceEq, reduceCtorEq, ↓reduceIte, E38_13, X38_13, k38_13b, b202]
  · replace h := br_t b202 h
    obtain ⟨x203, q204, h⟩ := bnd_some h
    obtain ⟨g205, g206, g207⟩ := idx_row encInt q204
    try simp -implicitDefEqProofs only [go_sem, Nat.reduceLT, Nat.reduceAdd, Nat.reduceSub, Nat.reduceMul, Nat.reduceEqDiff, Nat.reduceBEq, Nat.reduceLeDiff, Int.reduceToNat, Int.reduceLT, Int.reduceLE, Int.reduceEq, reduceCtorEq, ↓reduceIte] at g206
    try simp -implicitDefEqProofs only [go_sem, Nat.reduceLT, Nat.reduceAdd, Nat.reduceSub, Nat.reduceMul, Nat.reduceEqDiff, Nat.reduceBEq, Nat.reduceLeDiff, Int.reduceToNat, Int.reduceLT, Int.reduceLE, Int.reduceEq, reduceCtorEq, ↓reduceIte] at g207
    obtain ⟨v222, q220, h⟩ := bnd_some h
    have w221 := e38_16 a1 s200 s201 x203 s170 p174 a0 s171 s172 v222 q220
    simp only [X38_16] at w221
    try simp -implicitDefEqProofs only [go_sem, Nat.reduceLT, Nat.reduceAdd, Nat.reduceSub, Nat.reduceMul, Nat.reduceEqDiff, Nat.reduceBEq, Nat.reduceLeDiff, Int.reduceToNat, Int.reduceLT, Int.reduceLE, Int.reduceEq, reduceCtorEq, ↓reduceIte] at w221
    obtain ⟨v226, q224, h⟩ := bnd_some h
    have w225 := e38_17 a1 s200 s201 s170 p174 v222 a0 s171 s172 v226 q224
    simp only [X38_17] at w225
    try simp -implicitDefEqProofs only [go_sem, Nat.reduceLT, Nat.reduceAdd, Nat.reduceSub, Nat.reduceMul, Nat.reduceEqDiff, Nat.reduceBEq, Nat.reduceLeDiff, Int.reduceToNat, Int.reduceLT, Int.reduceLE, Int.reduceEq, reduceCtorEq, ↓reduceIte] at w225
    cases h
    simp -implicitDefEqProofs only [go_sem, Nat.reduceLT, Nat.reduceAdd, Nat.reduceSub, Nat.reduceMul, Nat.reduceEqDiff, Nat.reduceBEq, Nat.reduceLeDiff, Int.reduceToNat, Int.reduceLT, Int.reduceLE, Int.reduceEq, reduceCtorEq, ↓reduceIte, E38_13, X38_13, k38_13b, b202, g205, g206, g207, w221, w225]
theorem e38_13 (a1 : (List Arc)) (s170 : Int) (p174 : Int) (a0 : Algebra) (s171 : List Int) (s172 : List Bool) (s : (Int × Int)) (o : Int) (h : loopP (m38_13b p174 s171 s172) s = some o) : evCL T 0 (.loop k38_13b) (E38_13 a1 s170 p174 a0 s171 s172 s).1 (E38_13 a1 s170 p174 a0 s171 s172 s).2 = some (X38_13 a1 s170 p174 a0 s171 s172 o) :=
  loop_walk (E := E38_13 a1 s170 p174 a0 s171 s172) (X := X38_13 a1 s170 p174 a0 s171 s172) (by intro b; (simp only [X38_13]; nofun)) (b38_13 a1 s170 p174 a0 s171 s172) s o h
noncomputable def X38_21 (a1 : (List Arc)) (v229 : Int) (s274 : Int) (r279 : Int) (r280 : Bool) (s170 : Int) (a0 : Algebra) (s275 : List Int) (p235 : List Bool) (o : Bool) : Ex × Fr × St :=
  (.normal, frOf 104 (upd (upd (upd (upd (upd (upd (upd (upd (upd (upd anyF 1 (.ts .imm 3 (a1.map encArc))) 3 (.ptr 0 0 0)) 8 (.sl 1 0 s275.length)) 9 (.sl 2 0 p235.length)) 10 (.int .i64 v229)) 13 (.int .i64 s274)) 14 (.int .i64 r279)) 33 (.int .i64 s170)) 64 (.int .i64 s274)) 81 (.bool o)), [some ⟨.box, 2, [[.int .i64 a0.weights, .ts .imm 1 (a0.apply.map (encLInt .imm))]]⟩, some ⟨.arr, 1, s275.map encInt⟩, some ⟨.arr, 1, p235.map encBool⟩])
theorem e38_21 (a1 : (List Arc)) (v229 : Int) (s274 : Int) (r279 : Int) (r280 : Bool) (s170 : Int) (a0 : Algebra) (s275 : List Int) (p235 : List Bool) (o : Bool) (h : m38_21 s274 r280 p235 = some o) : evCL T 0 k38_21 (frOf 104 (upd (upd (upd (upd (upd (upd (upd (upd (upd (upd anyF 1 (.ts .imm 3 (a1.map encArc))) 3 (.ptr 0 0 0)) 8 (.sl 1 0 s275.length)) 9 (.sl 2 0 p235.length)) 10 (.int .i64 v229)) 13 (.int .i64 s274)) 14 (.int .i64 r279)) 15 (.bool r280)) 33 (.int .i64 s170)) 64 (.int .i64 s274))) [some ⟨.box, 2, [[.int .i64 a0.weights, .ts .imm 1 (a0.apply.map (encLInt .imm))]]⟩, some ⟨.arr, 1, s275.map encInt⟩, some ⟨.arr, 1, p235.map encBool⟩] = some (X38_21 a1 v229 s274 r279 r280 s170 a0 s275 p235 o) := by
  unfold m38_21 at h
  try simp -implicitDefEqProofs only [go_sem, Nat.reduceLT, Nat.reduceAdd, Nat.reduceSub, Nat.reduceMul, Nat.reduceEqDiff, Nat.reduceBEq, Nat.reduceLeDiff, Int.reduceToNat, Int.reduceLT, Int.reduceLE, Int.reduceEq, reduceCtorEq, ↓reduceIte, X38_21, k38_21]
  cases b281 : (r280 : Bool)
  · replace h := br_f b281 h
    cases h
    simp -implicitDefEqProofs only [go_sem, Nat.reduceLT, Nat.reduceAdd, Nat.reduceSub, Nat.reduceMul, Nat.reduceEqDiff, Nat.reduceBEq, Nat.reduceLeDiff, Int.reduceToNat, Int.reduceLT, Int.reduceLE, Int.reduceEq, reduceCtorEq, ↓reduceIte, X38_21, k38_21, b281]
  · replace h := br_t b281 h
    obtain ⟨x282, q283, h⟩ := bnd_some h
    obtain ⟨g284, g285, g286⟩ := idx_row encBool q283
    try simp -implicitDefEqProofs only [go_sem, Nat.reduceLT, Nat.reduceAdd, Nat.reduceSub, Nat.reduceMul, Nat.reduceEqDiff, Nat.reduceBEq, Nat.reduceLeDiff, Int.reduceToNat, Int.reduceLT, Int.reduceLE, Int.reduceEq, reduceCtorEq, ↓reduceIte] at g285
    try simp -implicitDefEqProofs only [go_sem, Nat.reduceLT, Nat.reduceAdd, Nat.reduceSub, Nat.reduceMul, Nat.reduceEqDiff, Nat.reduceBEq, Nat.reduceLeDiff, Int.reduceToNat, Int.reduceLT, Int.reduceLE, Int.reduceEq, reduceCtorEq, ↓reduceIte] at g286
    cases h
    simp -implicitDefEqProofs only [go_sem, Nat.reduceLT, Nat.reduceAdd, Nat.reduceSub, Nat.reduceMul, Nat.reduceEqDiff, Nat.reduceBEq, Nat.reduceLeDiff, Int.reduceToNat, Int.reduceLT, Int.reduceLE, Int.reduceEq, reduceCtorEq, ↓reduceIte, X38_21, k38_21, b281, g284, g285, g286]
noncomputable def X38_22 (a1 : (List Arc)) (v229 : Int) (s274 : Int) (r279 : Int) (s170 : Int) (v289 : Bool) (a0 : Algebra) (s275 : List Int) (p235 : List Bool) (o : (List Int)) : Ex × Fr × St :=
  (.normal, frOf 104 (upd (upd (upd (upd (upd (upd (upd anyF 1 (.ts .imm 3 (a1.map encArc))) 3 (.ptr 0 0 0)) 8 (.sl 1 0 o.length)) 9 (.sl 2 0 p235.length)) 10 (.int .i64 v229)) 33 (.int .i64 s170)) 64 (.int .i64 s274)), [some ⟨.box, 2, [[.int .i64 a0.weights, .ts .imm 1 (a0.apply.map (encLInt .imm))]]⟩, some ⟨.arr, 1, o.map encInt⟩, some ⟨.arr, 1, p235.map encBool⟩])
theorem e38_22 (a1 : (List Arc)) (v229 : Int) (s274 : Int) (r279 : Int) (s170 : Int) (v289 : Bool) (a0 : Algebra) (s275 : List Int) (p235 : List Bool) (o : (List Int)) (h : m38_22 v229 s274 r279 v289 a0 s275 = some o) : evCL T 0 k38_22 (frOf 104 (upd (upd (upd (upd (upd (upd (upd (upd (upd (upd anyF 1 (.ts .imm 3 (a1.map encArc))) 3 (.ptr 0 0 0)) 8 (.sl 1 0 s275.length)) 9 (.sl 2 0 p235.length)) 10 (.int .i64 v229)) 13 (.int .i64 s274)) 14 (.int .i64 r279)) 33 (.int .i64 s170)) 64 (.int .i64 s274)) 81 (.bool v289))) [some ⟨.box, 2, [[.int .i64 a0.weights, .ts .imm 1 (a0.apply.map (encLInt .imm))]]⟩, some ⟨.arr, 1, s275.map encInt⟩, some ⟨.arr, 1, p235.map encBool⟩] = some (X38_22 a1 v229 s274 r279 s170 v289 a0 s275 p235 o) := by
  unfold m38_22 at h
  try simp -implicitDefEqProofs only [go_sem, Nat.reduceLT, Nat.reduceAdd, Nat.reduceSub, Nat.reduceMul, Nat.reduceEqDiff, Nat.reduceBEq, Nat.reduceLeDiff, Int.reduceToNat, Int.reduceLT, Int.reduceLE, Int.reduceEq, reduceCtorEq, ↓reduceIte, X38_22, k38_22]
  cases b290 : (v289 : Bool)
  · replace h := br_f b290 h
    cases h
    simp -implicitDefEqProofs only [go_sem, Nat.reduceLT, Nat.reduceAdd, Nat.reduceSub, Nat.reduceMul, Nat.reduceEqDiff, Nat.reduceBEq, Nat.reduceLeDiff, Int.reduceToNat, Int.reduceLT, Int.reduceLE, Int.reduceEq, reduceCtorEq, ↓reduceIte, X38_22, k38_22, b290]
  · replace h := br_t b290 h
    obtain ⟨x291, q292, h⟩ := bnd_some h
    obtain ⟨g293, g294, g295⟩ := idx_row encInt q292
    try simp -implicitDefEqProofs only [go_sem, Nat.reduceLT, Nat.reduceAdd, Nat.reduceSub, Nat.reduceMul, Nat.reduceEqDiff, Nat.reduceBEq, Nat.reduceLeDiff, Int.reduceToNat, Int.reduceLT, Int.reduceLE, Int.reduceEq, reduceCtorEq, ↓reduceIte] at g294
    try simp -implicitDefEqProofs only [go_sem, Nat.reduceLT, Nat.reduceAdd, Nat.reduceSub, Nat.reduceMul, Nat.reduceEqDiff, Nat.reduceBEq, Nat.reduceLeDiff, Int.reduceToNat, Int.reduceLT, Int.reduceLE, Int.reduceEq, reduceCtorEq, ↓reduceIte] at g295
    obtain ⟨x296, q297, h⟩ := bnd_some h
    obtain ⟨g298, g299, g300⟩ := idx_row (encLInt .imm) q297
    try simp -implicitDefEqProofs only [go_sem, Nat.reduceLT, Nat.reduceAdd, Nat.reduceSub, Nat.reduceMul, Nat.reduceEqDiff, Nat.reduceBEq, Nat.reduceLeDiff, Int.reduceToNat, Int.reduceLT, Int.reduceLE, Int.reduceEq, reduceCtorEq, ↓reduceIte] at g299
    try simp -implicitDefEqProofs only [go_sem, Nat.reduceLT, Nat.reduceAdd, Nat.reduceSub, Nat.reduceMul, Nat.reduceEqDiff, Nat.reduceBEq, Nat.reduceLeDiff, Int.reduceToNat, Int.reduceLT, Int.reduceLE, Int.reduceEq, reduceCtorEq, ↓reduceIte] at g300
    obtain ⟨x301, q302, h⟩ := bnd_some h
    obtain ⟨g303, g304, g305⟩ := idx_row encInt q302
    try simp -implicitDefEqProofs only [go_sem, Nat.reduceLT, Nat.reduceAdd, Nat.reduceSub, Nat.reduceMul, Nat.reduceEqDiff, Nat.reduceBEq, Nat.reduceLeDiff, Int.reduceToNat, Int.reduceLT, Int.reduceLE, Int.reduceEq, reduceCtorEq, ↓reduceIte] at g304
    try simp -implicitDefEqProofs only [go_sem, Nat.reduceLT, Nat.reduceAdd, Nat.reduceSub, Nat.reduceMul, Nat.reduceEqDiff, Nat.reduceBEq, Nat.reduceLeDiff, Int.reduceToNat, Int.reduceLT, Int.reduceLE, Int.reduceEq, reduceCtorEq, ↓reduceIte] at g305
    obtain ⟨x306, q307, h⟩ := bnd_some h
    obtain ⟨g308, g309, g310⟩ := idx_row encInt q307
    try simp -implicitDefEqProofs only [go_sem, Nat.reduceLT, Nat.reduceAdd, Nat.reduceSub, Nat.reduceMul, Nat.reduceEqDiff, Nat.reduceBEq, Nat.reduceLeDiff, Int.reduceToNat, Int.reduceLT, Int.reduceLE, Int.reduceEq, reduceCtorEq, ↓reduceIte] at g309
    try simp -implicitDefEqProofs only [go_sem, Nat.reduceLT, Nat.reduceAdd, Nat.reduceSub, Nat.reduceMul, Nat.reduceEqDiff, Nat.reduceBEq, Nat.reduceLeDiff, Int.reduceToNat, Int.reduceLT, Int.reduceLE, Int.reduceEq, reduceCtorEq, ↓reduceIte] at g310
    cases h
    simp -implicitDefEqProofs only [go_sem, Nat.reduceLT, Nat.reduceAdd, Nat.reduceSub, Nat.reduceMul, Nat.reduceEqDiff, Nat.reduceBEq, Nat.reduceLeDiff, Int.reduceToNat, Int.reduceLT, Int.reduceLE, Int.reduceEq, reduceCtorEq, ↓reduceIte, X38_22, k38_22, b290, g293, g294, g295, g298, g299, g300, g303, g304, g305, g308, g309, g310]
noncomputable def X38_18 (a1 : (List Arc)) (v229 : Int) (s170 : Int) (a0 : Algebra) (p235 : List Bool) (o : (List Int)) : Ex × Fr × St :=
  (.exit 4, frOf 104 (upd (upd (upd (upd (upd anyF 1 (.ts .imm 3 (a1.map encArc))) 3 (.ptr 0 0 0)) 8 (.sl 1 0 o.length)) 9 (.sl 2 0 p235.length)) 33 (.int .i64 s170)), [some ⟨.box, 2, [[.int .i64 a0.weights, .ts .imm 1 (a0.apply.map (encLInt .imm))]]⟩, some ⟨.arr, 1, o.map encInt⟩, some ⟨.arr, 1, p235.map encBool⟩])
noncomputable def E38_18 (a1 : (List Arc)) (v229 : Int) (s170 : Int) (a0 : Algebra) (p235 : List Bool) (s : (Int × List Int)) : Fr × St := (frOf 104 (upd (upd (upd (upd (upd (upd (upd anyF 1 (.ts .imm 3 (a1.map encArc))) 3 (.ptr 0 0 0)) 8 (.sl 1 0 s.2.length)) 9 (.sl 2 0 p235.length)) 10 (.int .i64 v229)) 33 (.int .i64 s170)) 64 (.int .i64 s.1)), [some ⟨.box, 2, [[.int .i64 a0.weights, .ts .imm 1 (a0.apply.map (encLInt .imm))]]⟩, some ⟨.arr, 1, s.2.map encInt⟩, some ⟨.arr, 1, p235.map encBool⟩])
theorem b38_18 (a1 : (List Arc)) (v229 : Int) (s170 : Int) (a0 : Algebra) (p235 : List Bool) (s : (Int × List Int)) (o : Ctl (Int × List Int) (List Int)) (h : m38_18b a1 v229 a0 p235 s = some o) : evCL T 0 k38_18b (E38_18 a1 v229 s170 a0 p235 s).1 (E38_18 a1 v229 s170 a0 p235 s).2 = some (ctlX (E38_18 a1 v229 s170 a0 p235) (X38_18 a1 v229 s170 a0 p235) o) := by
  unfold m38_18b at h
  obtain ⟨s274, s275⟩ := s
  replace h := sel2_some h
  try simp -implicitDefEqProofs only [go_sem, Nat.reduceLT, Nat.reduceAdd, Nat.reduceSub, Nat.reduceMul, Nat.reduceEqDiff, Nat.reduceBEq, Nat.reduceLeDiff, Int.reduceToNat, Int.reduceLT, Int.reduceLE, Int.reduceEq, reduceCtorEq, ↓reduceIte, E38_18, X38_18, k38_18b]
  cases b276 : (ltI s274 6 : Bool)
  · replace h := br_f b276 h
    cases h
    simp -implicitDefEqProofs only [go_sem, Nat.reduceLT, Nat.reduceAdd, Nat.reduceSub, Nat.reduceMul, Nat.reduceEqDiff, Nat.reduceBEq, Nat.reduceLeDiff, Int.reduceToNat, Int.reduceLT, Int.reduceLE, Int.reduceEq, reduceCtorEq, ↓reduceIte, E38_18, X38_18, k38_18b, b276]
  · replace h := br_t b276 h
    obtain ⟨⟨r279, r280⟩, q277, h⟩ := bnd_some h
    replace h := sel2_some h
    have w278 := e66 a1 s274 v229 (r279, r280) q277
    try simp -implicitDefEqProofs only [go_sem, Nat.reduceLT, Nat.reduceAdd, Nat.reduceSub, Nat.reduceMul, Nat.reduceEqDiff, Nat.reduceBEq, Nat.reduceLeDiff, Int.reduceToNat, Int.reduceLT, Int.reduceLE, Int.reduceEq, reduceCtorEq, ↓reduceIte] at w278
    obtain ⟨v289, q287, h⟩ := bnd_some h
    have w288 := e38_21 a1 v229 s274 r279 r280 s170 a0 s275 p235 v289 q287
    simp only [X38_21] at w288
    try simp -implicitDefEqProofs only [go_sem, Nat.reduceLT, Nat.reduceAdd, Nat.reduceSub, Nat.reduceMul, Nat.reduceEqDiff, Nat.reduceBEq, Nat.reduceLeDiff, Int.reduceToNat, Int.reduceLT, Int.reduceLE, Int.reduceEq, reduceCtorEq, ↓reduceIte] at w288
    obtain ⟨v313, q311, h⟩ := bnd_some h
    have w312 := e38_22 a1 v229 s274 r279 s170 v289 a0 s275 p235 v313 q311
    simp only [X38_22] at w312
    try simp -implicitDefEqProofs only [go_sem, Nat.reduceLT, Nat.reduceAdd, Nat.reduceSub, Nat.reduceMul, Nat.reduceEqDiff, Nat.reduceBEq, Nat.reduceLeDiff, Int.reduceToNat, Int.reduceLT, Int.reduceLE, Int.reduceEq, reduceCtorEq, ↓reduceIte] at w312
    cases h
    simp -implicitDefEqProofs only [go_sem, Nat.reduceLT, Nat.reduceAdd, Nat.reduceSub, Nat.reduceMul, Nat.reduceEqDiff, Nat.reduceBEq, Nat.reduceLeDiff, Int.reduceToNat, Int.reduceLT, Int.reduceLE, Int.reduceEq, reduceCtorEq, ↓reduceIte, E38_18, X38_18, k38_18b, b276, w278, w288, w312]
theorem e38_18 (a1 : (List Arc)) (v229 : Int) (s170 : Int) (a0 : Algebra) (p235 : List Bool) (s : (Int × List Int)) (o : (List Int)) (h : loopP (m38_18b a1 v229 a0 p235) s = some o) : evCL T 0 (.loop k38_18b) (E38_18 a1 v229 s170 a0 p235 s).1 (E38_18 a1 v229 s170 a0 p235 s).2 = some (X38_18 a1 v229 s170 a0 p235 o) :=
  loop_walk (E := E38_18 a1 v229 s170 a0 p235) (X := X38_18 a1 v229 s170 a0 p235) (by intro b; (simp only [X38_18]; nofun)) (b38_18 a1 v229 s170 a0 p235) s o h
noncomputable def X38_2 (a1 : (List Arc)) (a0 : Algebra) (o : (List Int)) : Ex × Fr × St :=
  (.exit 0, frOf 104 (upd anyF 8 (.sl 0 0 o.length)), [some ⟨.arr, 1, o.map encInt⟩])
noncomputable def E38_2 (a1 : (List Arc)) (a0 : Algebra) (s : (Int × List Int × List Bool)) : Fr × St := (frOf 104 (upd (upd (upd (upd (upd anyF 1 (.ts .imm 3 (a1.map encArc))) 3 (.ptr 0 0 0)) 8 (.sl 1 0 s.2.1.length)) 9 (.sl 2 0 s.2.2.length)) 33 (.int .i64 s.1)), [some ⟨.box, 2, [[.int .i64 a0.weights, .ts .imm 1 (a0.apply.map (encLInt .imm))]]⟩, some ⟨.arr, 1, s.2.1.map encInt⟩, some ⟨.arr, 1, s.2.2.map encBool⟩])
theorem b38_2 (a1 : (List Arc)) (a0 : Algebra) (s : (Int × List Int × List Bool)) (o : Ctl (Int × List Int × List Bool) (List Int)) (h : m38_2b a1 a0 s = some o) : evCL T 0 k38_2b (E38_2 a1 a0 s).1 (E38_2 a1 a0 s).2 = some (ctlX (E38_2 a1 a0) (X38_2 a1 a0) o) := by
  unfold m38_2b at h
  obtain ⟨s170, s171, s172⟩ := s
  replace h := sel3_some h
  try simp -implicitDefEqProofs only [go_sem, Nat.reduceLT, Nat.reduceAdd, Nat.reduceSub, Nat.reduceMul, Nat.reduceEqDiff, Nat.reduceBEq, Nat.reduceLeDiff, Int.reduceToNat, Int.reduceLT, Int.reduceLE, Int.reduceEq, reduceCtorEq, ↓reduceIte, E38_2, X38_2, k38_2b]
  cases b173 : (ltI s170 6 : Bool)
  · replace h := br_f b173 h
    cases h
    simp -implicitDefEqProofs only [go_sem, Nat.reduceLT, Nat.reduceAdd, Nat.reduceSub, Nat.reduceMul, Nat.reduceEqDiff, Nat.reduceBEq, Nat.reduceLeDiff, Int.reduceToNat, Int.reduceLT, Int.reduceLE, Int.reduceEq, reduceCtorEq, ↓reduceIte, E38_2, X38_2, k38_2b, b173]
  · replace h := br_t b173 h
    obtain ⟨v229, q227, h⟩ := bnd_some h
    have w228 := e38_13 a1 s170 (↑s171.length : Int) a0 s171 s172 ((-1), 0) v229 q227
    simp only [E38_13, X38_13] at w228
    try simp -implicitDefEqProofs only [go_sem, Nat.reduceLT, Nat.reduceAdd, Nat.reduceSub, Nat.reduceMul, Nat.reduceEqDiff, Nat.reduceBEq, Nat.reduceLeDiff, Int.reduceToNat, Int.reduceLT, Int.reduceLE, Int.reduceEq, reduceCtorEq, ↓reduceIte] at w228
    obtain ⟨x230, q231, h⟩ := bnd_some h
    obtain ⟨g232, g233, g234⟩ := idx_row encBool q231
    try simp -implicitDefEqProofs only [go_sem, Nat.reduceLT, Nat.reduceAdd, Nat.reduceSub, Nat.reduceMul, Nat.reduceEqDiff, Nat.reduceBEq, Nat.reduceLeDiff, Int.reduceToNat, Int.reduceLT, Int.reduceLE, Int.reduceEq, reduceCtorEq, ↓reduceIte] at g233
    try simp -implicitDefEqProofs only [go_sem, Nat.reduceLT, Nat.reduceAdd, Nat.reduceSub, Nat.reduceMul, Nat.reduceEqDiff, Nat.reduceBEq, Nat.reduceLeDiff, Int.reduceToNat, Int.reduceLT, Int.reduceLE, Int.reduceEq, reduceCtorEq, ↓reduceIte] at g234
    obtain ⟨v316, q314, h⟩ := bnd_some h
    have w315 := e38_18 a1 v229 s170 a0 (s172.set v229.toNat true) (0, s171) v316 q314
    simp only [E38_18, X38_18] at w315
    try simp -implicitDefEqProofs only [go_sem, Nat.reduceLT, Nat.reduceAdd, Nat.reduceSub, Nat.reduceMul, Nat.reduceEqDiff, Nat.reduceBEq, Nat.reduceLeDiff, Int.reduceToNat, Int.reduceLT, Int.reduceLE, Int.reduceEq, reduceCtorEq, ↓reduceIte] at w315
    cases h
    simp -implicitDefEqProofs only [go_sem, Nat.reduceLT, Nat.reduceAdd, Nat.reduceSub, Nat.reduceMul, Nat.reduceEqDiff, Nat.reduceBEq, Nat.reduceLeDiff, Int.reduceToNat, Int.reduceLT, Int.reduceLE, Int.reduceEq, reduceCtorEq, ↓reduceIte, E38_2, X38_2, k38_2b, b173, w228, g232, g233, g234, w315]
theorem e38_2 (a1 : (List Arc)) (a0 : Algebra) (s : (Int × List Int × List Bool)) (o : (List Int)) (h : loopP (m38_2b a1 a0) s = some o) : evCL T 0 (.loop k38_2b) (E38_2 a1 a0 s).1 (E38_2 a1 a0 s).2 = some (X38_2 a1 a0 o) :=
  loop_walk (E := E38_2 a1 a0) (X := X38_2 a1 a0) (by intro b; (simp only [X38_2]; nofun)) (b38_2 a1 a0) s o h
theorem e38 (a0 : Algebra) (a1 : (List Arc)) (a2 : Int) (r : ((List Int) × Bool)) (h : m38 a0 a1 a2 = some r) : evFL T 38 [.agg [.int .i64 a0.weights, .ts .imm 1 (a0.apply.map (encLInt .imm))], .ts .imm 3 (a1.map encArc), .int .i64 a2] [] = some (.tup [.sl 0 0 r.1.length, .bool r.2], [some ⟨.arr, 1, r.1.map encInt⟩]) := by
  unfold m38 at h
  rw [evFL_at fn38 (Nat.le_of_ble_eq_true rfl) rfl (.inr rfl) ⟨rfl, rfl⟩]
  obtain ⟨v10, q8, h⟩ := bnd_some h
  have w9 := e38_1 a1 a2 a0 v10 q8
  simp only [X38_1] at w9
  try simp -implicitDefEqProofs only [go_sem, Nat.reduceLT, Nat.reduceAdd, Nat.reduceSub, Nat.reduceMul, Nat.reduceEqDiff, Nat.reduceBEq, Nat.reduceLeDiff, Int.reduceToNat, Int.reduceLT, Int.reduceLE, Int.reduceEq, reduceCtorEq, ↓reduceIte] at w9
  try simp -implicitDefEqProofs only [go_sem, Nat.reduceLT, Nat.reduceAdd, Nat.reduceSub, Nat.reduceMul, Nat.reduceEqDiff, Nat.reduceBEq, Nat.reduceLeDiff, Int.reduceToNat, Int.reduceLT, Int.reduceLE, Int.reduceEq, reduceCtorEq, ↓reduceIte, i38, c38, w9]
  cases b11 : (v10 : Bool)
  · replace h := br_f b11 h
    obtain ⟨r14, q12, h⟩ := bnd_some h
    have w13 := e51 a0 r14 q12
    try simp -implicitDefEqProofs only [go_sem, Nat.reduceLT, Nat.reduceAdd, Nat.reduceSub, Nat.reduceMul, Nat.reduceEqDiff, Nat.reduceBEq, Nat.reduceLeDiff, Int.reduceToNat, Int.reduceLT, Int.reduceLE, Int.reduceEq, reduceCtorEq, ↓reduceIte] at w13
    obtain ⟨r17, q15, h⟩ := bnd_some h
    have w16 := e70 [r14] 6 r17 q15
    try simp -implicitDefEqProofs only [go_sem, Nat.reduceLT, Nat.reduceAdd, Nat.reduceSub, Nat.reduceMul, Nat.reduceEqDiff, Nat.reduceBEq, Nat.reduceLeDiff, Int.reduceToNat, Int.reduceLT, Int.reduceLE, Int.reduceEq, reduceCtorEq, ↓reduceIte] at w16
    obtain ⟨x18, q19, h⟩ := bnd_some h
    obtain ⟨g20, g21, g22⟩ := idx_row encInt q19
    try simp -implicitDefEqProofs only [go_sem, Nat.reduceLT, Nat.reduceAdd, Nat.reduceSub, Nat.reduceMul, Nat.reduceEqDiff, Nat.reduceBEq, Nat.reduceLeDiff, Int.reduceToNat, Int.reduceLT, Int.reduceLE, Int.reduceEq, reduceCtorEq, ↓reduceIte] at g21
    try simp -implicitDefEqProofs only [go_sem, Nat.reduceLT, Nat.reduceAdd, Nat.reduceSub, Nat.reduceMul, Nat.reduceEqDiff, Nat.reduceBEq, Nat.reduceLeDiff, Int.reduceToNat, Int.reduceLT, Int.reduceLE, Int.reduceEq, reduceCtorEq, ↓reduceIte] at g22
    obtain ⟨g23, h⟩ := ck_some h
    try simp -implicitDefEqProofs only [go_sem, Nat.reduceLT, Nat.reduceAdd, Nat.reduceSub, Nat.reduceMul, Nat.reduceEqDiff, Nat.reduceBEq, Nat.reduceLeDiff, Int.reduceToNat, Int.reduceLT, Int.reduceLE, Int.reduceEq, reduceCtorEq, ↓reduceIte] at g23
    obtain ⟨v319, q317, h⟩ := bnd_some h
    have w318 := e38_2 a1 a0 (0, r17.set a2.toNat 0, List.replicate 6 false) v319 q317
    simp only [E38_2, X38_2] at w318
    try simp -implicitDefEqProofs only [go_sem, Nat.reduceLT, Nat.reduceAdd, Nat.reduceSub, Nat.reduceMul, Nat.reduceEqDiff, Nat.reduceBEq, Nat.reduceLeDiff, Int.reduceToNat, Int.reduceLT, Int.reduceLE, Int.reduceEq, reduceCtorEq, ↓reduceIte] at w318
    cases h
    simp -implicitDefEqProofs only [go_sem, Nat.reduceLT, Nat.reduceAdd, Nat.reduceSub, Nat.reduceMul, Nat.reduceEqDiff, Nat.reduceBEq, Nat.reduceLeDiff, Int.reduceToNat, Int.reduceLT, Int.reduceLE, Int.reduceEq, reduceCtorEq, ↓reduceIte, i38, c38, w9, b11, w13, w16, g20, g21, g22, g23, w318]
  · replace h := br_t b11 h
    cases h
    simp -implicitDefEqProofs only [go_sem, Nat.reduceLT, Nat.reduceAdd, Nat.reduceSub, Nat.reduceMul, Nat.reduceEqDiff, Nat.reduceBEq, Nat.reduceLeDiff, Int.reduceToNat, Int.reduceLT, Int.reduceLE, Int.reduceEq, reduceCtorEq, ↓reduceIte, i38, c38, w9, b11]
-- f31 laws.eqIntS
theorem call31 (args : List AV) (S : St) : evCall T (evFL T) 31 args S = lendC (evFL T 31) S (lendAll S [[1], [1]] args) := evCall0 fn31 rfl rfl rfl args S
theorem callz31 (args : List AV) (S : St) : evCallFz T (evFL T) 31 args S = lendZ (evFL T 31) S [[0]] (lendAll S [[1], [1]] args) := evCallFz0 fn31 rfl rfl rfl args S
theorem calls31 (args : List AV) (S : St) : evCall (T.at true) (evFL T) 31 args S = lendC (evFL T 31) S (lendAll S [[1], [1]] args) := evCall0 fns31 rfl rfl rfl args S
theorem callsz31 (args : List AV) (S : St) : evCallFz (T.at true) (evFL T) 31 args S = lendZ (evFL T 31) S [[0]] (lendAll S [[1], [1]] args) := evCallFz0 fns31 rfl rfl rfl args S
attribute [go_sem] call31 callz31 calls31 callsz31
noncomputable def X31_1 (a0 : (List Int)) (a1 : (List Int)) (o : (Unit ⊕ Unit)) : Ex × Fr × St :=
  match o with
  | .inl o => (.exit 0, frOf 26 (anyF), [])
  | .inr o => (.ret, frOf 26 (upd anyF 4 (.bool false)), [])
noncomputable def E31_1 (a0 : (List Int)) (a1 : (List Int)) (s : Int) : Fr × St := (frOf 26 (upd (upd (upd anyF 0 (.ts .imm 1 (a0.map encInt))) 1 (.ts .imm 1 (a1.map encInt))) 5 (.int .i64 s)), [])
theorem b31_1 (a0 : (List Int)) (a1 : (List Int)) (s : Int) (o : Ctl Int (Unit ⊕ Unit)) (h : m31_1b a0 a1 s = some o) : evCL T 0 k31_1b (E31_1 a0 a1 s).1 (E31_1 a0 a1 s).2 = some (ctlX (E31_1 a0 a1) (X31_1 a0 a1) o) := by
  unfold m31_1b at h
  revert h
  generalize s = s14
  intro h
  try simp -implicitDefEqProofs only [go_sem, Nat.reduceLT, Nat.reduceAdd, Nat.reduceSub, Nat.reduceMul, Nat.reduceEqDiff, Nat.reduceBEq, Nat.reduceLeDiff, Int.reduceToNat, Int.reduceLT, Int.reduceLE, Int.reduceEq, reduceCtorEq, ↓reduceIte, E31_1, X31_1, k31_1b]
  cases b15 : (ltI s14 (↑a0.length : Int) : Bool)
  · replace h := br_f b15 h
    cases h
    simp -implicitDefEqProofs only [go_sem, Nat.reduceLT, Nat.reduceAdd, Nat.reduceSub, Nat.reduceMul, Nat.reduceEqDiff, Nat.reduceBEq, Nat.reduceLeDiff, Int.reduceToNat, Int.reduceLT, Int.reduceLE, Int.reduceEq, reduceCtorEq, ↓reduceIte, E31_1, X31_1, k31_1b, b15]
  · replace h := br_t b15 h
    obtain ⟨x16, q17, h⟩ := bnd_some h
    obtain ⟨g18, g19, g20⟩ := idx_row encInt q17
    try simp -implicitDefEqProofs only [go_sem, Nat.reduceLT, Nat.reduceAdd, Nat.reduceSub, Nat.reduceMul, Nat.reduceEqDiff, Nat.reduceBEq, Nat.reduceLeDiff, Int.reduceToNat, Int.reduceLT, Int.reduceLE, Int.reduceEq, reduceCtorEq, ↓reduceIte] at g19
    try simp -implicitDefEqProofs only [go_sem, Nat.reduceLT, Nat.reduceAdd, Nat.reduceSub, Nat.reduceMul, Nat.reduceEqDiff, Nat.reduceBEq, Nat.reduceLeDiff, Int.reduceToNat, Int.reduceLT, Int.reduceLE, Int.reduceEq, reduceCtorEq, ↓reduceIte] at g20
    obtain ⟨x21, q22, h⟩ := bnd_some h
    obtain ⟨g23, g24, g25⟩ := idx_row encInt q22
    try simp -implicitDefEqProofs only [go_sem, Nat.reduceLT, Nat.reduceAdd, Nat.reduceSub, Nat.reduceMul, Nat.reduceEqDiff, Nat.reduceBEq, Nat.reduceLeDiff, Int.reduceToNat, Int.reduceLT, Int.reduceLE, Int.reduceEq, reduceCtorEq, ↓reduceIte] at g24
    try simp -implicitDefEqProofs only [go_sem, Nat.reduceLT, Nat.reduceAdd, Nat.reduceSub, Nat.reduceMul, Nat.reduceEqDiff, Nat.reduceBEq, Nat.reduceLeDiff, Int.reduceToNat, Int.reduceLT, Int.reduceLE, Int.reduceEq, reduceCtorEq, ↓reduceIte] at g25
    try simp -implicitDefEqProofs only [go_sem, Nat.reduceLT, Nat.reduceAdd, Nat.reduceSub, Nat.reduceMul, Nat.reduceEqDiff, Nat.reduceBEq, Nat.reduceLeDiff, Int.reduceToNat, Int.reduceLT, Int.reduceLE, Int.reduceEq, reduceCtorEq, ↓reduceIte, E31_1, X31_1, k31_1b, b15, g18, g19, g20, g23, g24, g25]
    cases b26 : (eqI x16 x21 : Bool)
    · replace h := br_f b26 h
      cases h
      simp -implicitDefEqProofs only [go_sem, Nat.reduceLT, Nat.reduceAdd, Nat.reduceSub, Nat.reduceMul, Nat.reduceEqDiff, Nat.reduceBEq, Nat.reduceLeDiff, Int.reduceToNat, Int.reduceLT, Int.reduceLE, Int.reduceEq, reduceCtorEq, ↓reduceIte, E31_1, X31_1, k31_1b, b15, g18, g19, g20, g23, g24, g25, b26]
    · replace h := br_t b26 h
      cases h
      simp -implicitDefEqProofs only [go_sem, Nat.reduceLT, Nat.reduceAdd, Nat.reduceSub, Nat.reduceMul, Nat.reduceEqDiff, Nat.reduceBEq, Nat.reduceLeDiff, Int.reduceToNat, Int.reduceLT, Int.reduceLE, Int.reduceEq, reduceCtorEq, ↓reduceIte, E31_1, X31_1, k31_1b, b15, g18, g19, g20, g23, g24, g25, b26]
theorem e31_1 (a0 : (List Int)) (a1 : (List Int)) (s : Int) (o : (Unit ⊕ Unit)) (h : loopP (m31_1b a0 a1) s = some o) : evCL T 0 (.loop k31_1b) (E31_1 a0 a1 s).1 (E31_1 a0 a1 s).2 = some (X31_1 a0 a1 o) :=
  loop_walk (E := E31_1 a0 a1) (X := X31_1 a0 a1) (by intro b; rcases b with b | b <;> (simp only [X31_1]; nofun)) (b31_1 a0 a1) s o h
theorem e31 (a0 : (List Int)) (a1 : (List Int)) (r : Bool) (h : m31 a0 a1 = some r) : evFL T 31 [.ts .imm 1 (a0.map encInt), .ts .imm 1 (a1.map encInt)] [] = some (.bool r, []) := by
  unfold m31 at h
  rw [evFL_at fn31 (Nat.le_of_ble_eq_true rfl) rfl (.inr rfl) ⟨rfl, rfl⟩]
  try simp -implicitDefEqProofs only [go_sem, Nat.reduceLT, Nat.reduceAdd, Nat.reduceSub, Nat.reduceMul, Nat.reduceEqDiff, Nat.reduceBEq, Nat.reduceLeDiff, Int.reduceToNat, Int.reduceLT, Int.reduceLE, Int.reduceEq, reduceCtorEq, ↓reduceIte, i31, c31]
  cases b1 : (eqI (↑a0.length : Int) (↑a1.length : Int) : Bool)
  · replace h := br_f b1 h
    cases h
    simp -implicitDefEqProofs only [go_sem, Nat.reduceLT, Nat.reduceAdd, Nat.reduceSub, Nat.reduceMul, Nat.reduceEqDiff, Nat.reduceBEq, Nat.reduceLeDiff, Int.reduceToNat, Int.reduceLT, Int.reduceLE, Int.reduceEq, reduceCtorEq, ↓reduceIte, i31, c31, b1]
  · replace h := br_t b1 h
    try simp -implicitDefEqProofs only [go_sem, Nat.reduceLT, Nat.reduceAdd, Nat.reduceSub, Nat.reduceMul, Nat.reduceEqDiff, Nat.reduceBEq, Nat.reduceLeDiff, Int.reduceToNat, Int.reduceLT, Int.reduceLE, Int.reduceEq, reduceCtorEq, ↓reduceIte, i31, c31, b1]
    obtain ⟨o, q27, h⟩ := bnd_some h
    rcases o with ⟨⟩ | ⟨⟩
    · replace h := selS_l h
      have w28 := e31_1 a0 a1 0 (.inl ()) q27
      simp only [E31_1, X31_1] at w28
      try simp -implicitDefEqProofs only [go_sem, Nat.reduceLT, Nat.reduceAdd, Nat.reduceSub, Nat.reduceMul, Nat.reduceEqDiff, Nat.reduceBEq, Nat.reduceLeDiff, Int.reduceToNat, Int.reduceLT, Int.reduceLE, Int.reduceEq, reduceCtorEq, ↓reduceIte] at w28
      cases h
      simp -implicitDefEqProofs only [go_sem, Nat.reduceLT, Nat.reduceAdd, Nat.reduceSub, Nat.reduceMul, Nat.reduceEqDiff, Nat.reduceBEq, Nat.reduceLeDiff, Int.reduceToNat, Int.reduceLT, Int.reduceLE, Int.reduceEq, reduceCtorEq, ↓reduceIte, i31, c31, b1, w28]
    · replace h := selS_r h
      have w28 := e31_1 a0 a1 0 (.inr ()) q27
      simp only [E31_1, X31_1] at w28
      try simp -implicitDefEqProofs only [go_sem, Nat.reduceLT, Nat.reduceAdd, Nat.reduceSub, Nat.reduceMul, Nat.reduceEqDiff, Nat.reduceBEq, Nat.reduceLeDiff, Int.reduceToNat, Int.reduceLT, Int.reduceLE, Int.reduceEq, reduceCtorEq, ↓reduceIte] at w28
      cases h
      simp -implicitDefEqProofs only [go_sem, Nat.reduceLT, Nat.reduceAdd, Nat.reduceSub, Nat.reduceMul, Nat.reduceEqDiff, Nat.reduceBEq, Nat.reduceLeDiff, Int.reduceToNat, Int.reduceLT, Int.reduceLE, Int.reduceEq, reduceCtorEq, ↓reduceIte, i31, c31, b1, w28]
-- f54 laws.eqIntSS
theorem call54 (args : List AV) (S : St) : evCall T (evFL T) 54 args S = lendC (evFL T 54) S (lendAll S [[1], [1]] args) := evCall0 fn54 rfl rfl rfl args S
theorem callz54 (args : List AV) (S : St) : evCallFz T (evFL T) 54 args S = lendZ (evFL T 54) S [[0]] (lendAll S [[1], [1]] args) := evCallFz0 fn54 rfl rfl rfl args S
theorem calls54 (args : List AV) (S : St) : evCall (T.at true) (evFL T) 54 args S = lendC (evFL T 54) S (lendAll S [[1], [1]] args) := evCall0 fns54 rfl rfl rfl args S
theorem callsz54 (args : List AV) (S : St) : evCallFz (T.at true) (evFL T) 54 args S = lendZ (evFL T 54) S [[0]] (lendAll S [[1], [1]] args) := evCallFz0 fns54 rfl rfl rfl args S
attribute [go_sem] call54 callz54 calls54 callsz54
noncomputable def X54_1 (a0 : (List (List Int))) (a1 : (List (List Int))) (o : (Unit ⊕ Unit)) : Ex × Fr × St :=
  match o with
  | .inl o => (.exit 0, frOf 27 (anyF), [])
  | .inr o => (.ret, frOf 27 (upd anyF 4 (.bool false)), [])
noncomputable def E54_1 (a0 : (List (List Int))) (a1 : (List (List Int))) (s : Int) : Fr × St := (frOf 27 (upd (upd (upd anyF 0 (.ts .imm 1 (a0.map (encLInt .imm)))) 1 (.ts .imm 1 (a1.map (encLInt .imm)))) 5 (.int .i64 s)), [])
theorem b54_1 (a0 : (List (List Int))) (a1 : (List (List Int))) (s : Int) (o : Ctl Int (Unit ⊕ Unit)) (h : m54_1b a0 a1 s = some o) : evCL T 0 k54_1b (E54_1 a0 a1 s).1 (E54_1 a0 a1 s).2 = some (ctlX (E54_1 a0 a1) (X54_1 a0 a1) o) := by
  unfold m54_1b at h
  revert h
  generalize s = s17
  intro h
  try simp -implicitDefEqProofs only [go_sem, Nat.reduceLT, Nat.reduceAdd, Nat.reduceSub, Nat.reduceMul, Nat.reduceEqDiff, Nat.reduceBEq, Nat.reduceLeDiff, Int.reduceToNat, Int.reduceLT, Int.reduceLE, Int.reduceEq, reduceCtorEq, ↓reduceIte, E54_1, X54_1, k54_1b]
  cases b18 : (ltI s17 (↑a0.length : Int) : Bool)
  · replace h := br_f b18 h
    cases h
    simp -implicitDefEqProofs only [go_sem, Nat.reduceLT, Nat.reduceAdd, Nat.reduceSub, Nat.reduceMul, Nat.reduceEqDiff, Nat.reduceBEq, Nat.reduceLeDiff, Int.reduceToNat, Int.reduceLT, Int.reduceLE, Int.reduceEq, reduceCtorEq, ↓reduceIte, E54_1, X54_1, k54_1b, b18]
  · replace h := br_t b18 h
    obtain ⟨x19, q20, h⟩ := bnd_some h
    obtain ⟨g21, g22, g23⟩ := idx_row (encLInt .imm) q20
    try simp -implicitDefEqProofs only [go_sem, Nat.reduceLT, Nat.reduceAdd, Nat.reduceSub, Nat.reduceMul, Nat.reduceEqDiff, Nat.reduceBEq, Nat.reduceLeDiff, Int.reduceToNat, Int.reduceLT, Int.reduceLE, Int.reduceEq, reduceCtorEq, ↓reduceIte] at g22
    try simp -implicitDefEqProofs only [go_sem, Nat.reduceLT, Nat.reduceAdd, Nat.reduceSub, Nat.reduceMul, Nat.reduceEqDiff, Nat.reduceBEq, Nat.reduceLeDiff, Int.reduceToNat, Int.reduceLT, Int.reduceLE, Int.reduceEq, reduceCtorEq, ↓reduceIte] at g23
    obtain ⟨x24, q25, h⟩ := bnd_some h
    obtain ⟨g26, g27, g28⟩ := idx_row (encLInt .imm) q25
    try simp -implicitDefEqProofs only [go_sem, Nat.reduceLT, Nat.reduceAdd, Nat.reduceSub, Nat.reduceMul, Nat.reduceEqDiff, Nat.reduceBEq, Nat.reduceLeDiff, Int.reduceToNat, Int.reduceLT, Int.reduceLE, Int.reduceEq, reduceCtorEq, ↓reduceIte] at g27
    try simp -implicitDefEqProofs only [go_sem, Nat.reduceLT, Nat.reduceAdd, Nat.reduceSub, Nat.reduceMul, Nat.reduceEqDiff, Nat.reduceBEq, Nat.reduceLeDiff, Int.reduceToNat, Int.reduceLT, Int.reduceLE, Int.reduceEq, reduceCtorEq, ↓reduceIte] at g28
    obtain ⟨r31, q29, h⟩ := bnd_some h
    have w30 := e31 x19 x24 r31 q29
    try simp -implicitDefEqProofs only [go_sem, Nat.reduceLT, Nat.reduceAdd, Nat.reduceSub, Nat.reduceMul, Nat.reduceEqDiff, Nat.reduceBEq, Nat.reduceLeDiff, Int.reduceToNat, Int.reduceLT, Int.reduceLE, Int.reduceEq, reduceCtorEq, ↓reduceIte] at w30
    try simp -implicitDefEqProofs only [go_sem, Nat.reduceLT, Nat.reduceAdd, Nat.reduceSub, Nat.reduceMul, Nat.reduceEqDiff, Nat.reduceBEq, Nat.reduceLeDiff, Int.reduceToNat, Int.reduceLT, Int.reduceLE, Int.reduceEq, reduceCtorEq, ↓reduceIte, E54_1, X54_1, k54_1b, b18, g21, g22, g23, g26, g27, g28, w30]
    cases b32 : (r31 : Bool)
    · replace h := br_f b32 h
      cases h
      simp -implicitDefEqProofs only [go_sem, Nat.reduceLT, Nat.reduceAdd, Nat.reduceSub, Nat.reduceMul, Nat.reduceEqDiff, Nat.reduceBEq, Nat.reduceLeDiff, Int.reduceToNat, Int.reduceLT, Int.reduceLE, Int.reduceEq, reduceCtorEq, ↓reduceIte, E54_1, X54_1, k54_1b, b18, g21, g22, g23, g26, g27, g28, w30, b32]
    · replace h := br_t b32 h
      cases h
      simp -implicitDefEqProofs only [go_sem, Nat.reduceLT, Nat.reduceAdd, Nat.reduceSub, Nat.reduceMul, Nat.reduceEqDiff, Nat.reduceBEq, Nat.reduceLeDiff, Int.reduceToNat, Int.reduceLT, Int.reduceLE, Int.reduceEq, reduceCtorEq, ↓reduceIte, E54_1, X54_1, k54_1b, b18, g21, g22, g23, g26, g27, g28, w30, b32]
theorem e54_1 (a0 : (List (List Int))) (a1 : (List (List Int))) (s : Int) (o : (Unit ⊕ Unit)) (h : loopP (m54_1b a0 a1) s = some o) : evCL T 0 (.loop k54_1b) (E54_1 a0 a1 s).1 (E54_1 a0 a1 s).2 = some (X54_1 a0 a1 o) :=
  loop_walk (E := E54_1 a0 a1) (X := X54_1 a0 a1) (by intro b; rcases b with b | b <;> (simp only [X54_1]; nofun)) (b54_1 a0 a1) s o h
theorem e54 (a0 : (List (List Int))) (a1 : (List (List Int))) (r : Bool) (h : m54 a0 a1 = some r) : evFL T 54 [.ts .imm 1 (a0.map (encLInt .imm)), .ts .imm 1 (a1.map (encLInt .imm))] [] = some (.bool r, []) := by
  unfold m54 at h
  rw [evFL_at fn54 (Nat.le_of_ble_eq_true rfl) rfl (.inr rfl) ⟨rfl, rfl⟩]
  try simp -implicitDefEqProofs only [go_sem, Nat.reduceLT, Nat.reduceAdd, Nat.reduceSub, Nat.reduceMul, Nat.reduceEqDiff, Nat.reduceBEq, Nat.reduceLeDiff, Int.reduceToNat, Int.reduceLT, Int.reduceLE, Int.reduceEq, reduceCtorEq, ↓reduceIte, i54, c54]
  cases b1 : (eqI (↑a0.length : Int) (↑a1.length : Int) : Bool)
  · replace h := br_f b1 h
    cases h
    simp -implicitDefEqProofs only [go_sem, Nat.reduceLT, Nat.reduceAdd, Nat.reduceSub, Nat.reduceMul, Nat.reduceEqDiff, Nat.reduceBEq, Nat.reduceLeDiff, Int.reduceToNat, Int.reduceLT, Int.reduceLE, Int.reduceEq, reduceCtorEq, ↓reduceIte, i54, c54, b1]
  · replace h := br_t b1 h
    try simp -implicitDefEqProofs only [go_sem, Nat.reduceLT, Nat.reduceAdd, Nat.reduceSub, Nat.reduceMul, Nat.reduceEqDiff, Nat.reduceBEq, Nat.reduceLeDiff, Int.reduceToNat, Int.reduceLT, Int.reduceLE, Int.reduceEq, reduceCtorEq, ↓reduceIte, i54, c54, b1]
    obtain ⟨o, q33, h⟩ := bnd_some h
    rcases o with ⟨⟩ | ⟨⟩
    · replace h := selS_l h
      have w34 := e54_1 a0 a1 0 (.inl ()) q33
      simp only [E54_1, X54_1] at w34
      try simp -implicitDefEqProofs only [go_sem, Nat.reduceLT, Nat.reduceAdd, Nat.reduceSub, Nat.reduceMul, Nat.reduceEqDiff, Nat.reduceBEq, Nat.reduceLeDiff, Int.reduceToNat, Int.reduceLT, Int.reduceLE, Int.reduceEq, reduceCtorEq, ↓reduceIte] at w34
      cases h
      simp -implicitDefEqProofs only [go_sem, Nat.reduceLT, Nat.reduceAdd, Nat.reduceSub, Nat.reduceMul, Nat.reduceEqDiff, Nat.reduceBEq, Nat.reduceLeDiff, Int.reduceToNat, Int.reduceLT, Int.reduceLE, Int.reduceEq, reduceCtorEq, ↓reduceIte, i54, c54, b1, w34]
    · replace h := selS_r h
      have w34 := e54_1 a0 a1 0 (.inr ()) q33
      simp only [E54_1, X54_1] at w34
      try simp -implicitDefEqProofs only [go_sem, Nat.reduceLT, Nat.reduceAdd, Nat.reduceSub, Nat.reduceMul, Nat.reduceEqDiff, Nat.reduceBEq, Nat.reduceLeDiff, Int.reduceToNat, Int.reduceLT, Int.reduceLE, Int.reduceEq, reduceCtorEq, ↓reduceIte] at w34
      cases h
      simp -implicitDefEqProofs only [go_sem, Nat.reduceLT, Nat.reduceAdd, Nat.reduceSub, Nat.reduceMul, Nat.reduceEqDiff, Nat.reduceBEq, Nat.reduceLeDiff, Int.reduceToNat, Int.reduceLT, Int.reduceLE, Int.reduceEq, reduceCtorEq, ↓reduceIte, i54, c54, b1, w34]
-- f16 laws.eqAlgebra
theorem call16 (args : List AV) (S : St) : evCall T (evFL T) 16 args S = lendC (evFL T 16) S (lendAll S [[0, 1], [0, 1]] args) := evCall0 fn16 rfl rfl rfl args S
theorem callz16 (args : List AV) (S : St) : evCallFz T (evFL T) 16 args S = lendZ (evFL T 16) S [[0]] (lendAll S [[0, 1], [0, 1]] args) := evCallFz0 fn16 rfl rfl rfl args S
theorem calls16 (args : List AV) (S : St) : evCall (T.at true) (evFL T) 16 args S = lendC (evFL T 16) S (lendAll S [[0, 1], [0, 1]] args) := evCall0 fns16 rfl rfl rfl args S
theorem callsz16 (args : List AV) (S : St) : evCallFz (T.at true) (evFL T) 16 args S = lendZ (evFL T 16) S [[0]] (lendAll S [[0, 1], [0, 1]] args) := evCallFz0 fns16 rfl rfl rfl args S
attribute [go_sem] call16 callz16 calls16 callsz16
theorem e16 (a0 : Algebra) (a1 : Algebra) (r : Bool) (h : m16 a0 a1 = some r) : evFL T 16 [.agg [.int .i64 a0.weights, .ts .imm 1 (a0.apply.map (encLInt .imm))], .agg [.int .i64 a1.weights, .ts .imm 1 (a1.apply.map (encLInt .imm))]] [] = some (.bool r, []) := by
  unfold m16 at h
  rw [evFL_at fn16 (Nat.le_of_ble_eq_true rfl) rfl (.inr rfl) ⟨rfl, rfl⟩]
  try simp -implicitDefEqProofs only [go_sem, Nat.reduceLT, Nat.reduceAdd, Nat.reduceSub, Nat.reduceMul, Nat.reduceEqDiff, Nat.reduceBEq, Nat.reduceLeDiff, Int.reduceToNat, Int.reduceLT, Int.reduceLE, Int.reduceEq, reduceCtorEq, ↓reduceIte, i16, c16]
  cases b1 : (eqI a0.weights a1.weights : Bool)
  · replace h := br_f b1 h
    cases h
    simp -implicitDefEqProofs only [go_sem, Nat.reduceLT, Nat.reduceAdd, Nat.reduceSub, Nat.reduceMul, Nat.reduceEqDiff, Nat.reduceBEq, Nat.reduceLeDiff, Int.reduceToNat, Int.reduceLT, Int.reduceLE, Int.reduceEq, reduceCtorEq, ↓reduceIte, i16, c16, b1]
  · replace h := br_t b1 h
    obtain ⟨r4, q2, h⟩ := bnd_some h
    have w3 := e54 a0.apply a1.apply r4 q2
    try simp -implicitDefEqProofs only [go_sem, Nat.reduceLT, Nat.reduceAdd, Nat.reduceSub, Nat.reduceMul, Nat.reduceEqDiff, Nat.reduceBEq, Nat.reduceLeDiff, Int.reduceToNat, Int.reduceLT, Int.reduceLE, Int.reduceEq, reduceCtorEq, ↓reduceIte] at w3
    try simp -implicitDefEqProofs only [go_sem, Nat.reduceLT, Nat.reduceAdd, Nat.reduceSub, Nat.reduceMul, Nat.reduceEqDiff, Nat.reduceBEq, Nat.reduceLeDiff, Int.reduceToNat, Int.reduceLT, Int.reduceLE, Int.reduceEq, reduceCtorEq, ↓reduceIte, i16, c16, b1, w3]
    cases b5 : (r4 : Bool)
    · replace h := br_f b5 h
      cases h
      simp -implicitDefEqProofs only [go_sem, Nat.reduceLT, Nat.reduceAdd, Nat.reduceSub, Nat.reduceMul, Nat.reduceEqDiff, Nat.reduceBEq, Nat.reduceLeDiff, Int.reduceToNat, Int.reduceLT, Int.reduceLE, Int.reduceEq, reduceCtorEq, ↓reduceIte, i16, c16, b1, w3, b5]
    · replace h := br_t b5 h
      cases h
      simp -implicitDefEqProofs only [go_sem, Nat.reduceLT, Nat.reduceAdd, Nat.reduceSub, Nat.reduceMul, Nat.reduceEqDiff, Nat.reduceBEq, Nat.reduceLeDiff, Int.reduceToNat, Int.reduceLT, Int.reduceLE, Int.reduceEq, reduceCtorEq, ↓reduceIte, i16, c16, b1, w3, b5]
-- f67 laws.eqArc
theorem call67 (args : List AV) (S : St) : evCall T (evFL T) 67 args S = lendC (evFL T 67) S (lendAll S [[0, 0, 0], [0, 0, 0]] args) := evCall0 fn67 rfl rfl rfl args S
theorem callz67 (args : List AV) (S : St) : evCallFz T (evFL T) 67 args S = lendZ (evFL T 67) S [[0]] (lendAll S [[0, 0, 0], [0, 0, 0]] args) := evCallFz0 fn67 rfl rfl rfl args S
theorem calls67 (args : List AV) (S : St) : evCall (T.at true) (evFL T) 67 args S = lendC (evFL T 67) S (lendAll S [[0, 0, 0], [0, 0, 0]] args) := evCall0 fns67 rfl rfl rfl args S
theorem callsz67 (args : List AV) (S : St) : evCallFz (T.at true) (evFL T) 67 args S = lendZ (evFL T 67) S [[0]] (lendAll S [[0, 0, 0], [0, 0, 0]] args) := evCallFz0 fns67 rfl rfl rfl args S
attribute [go_sem] call67 callz67 calls67 callsz67
theorem e67 (a0 : Arc) (a1 : Arc) (r : Bool) (h : m67 a0 a1 = some r) : evFL T 67 [.agg [.int .i64 a0.from_, .int .i64 a0.to, .int .i64 a0.label], .agg [.int .i64 a1.from_, .int .i64 a1.to, .int .i64 a1.label]] [] = some (.bool r, []) := by
  unfold m67 at h
  rw [evFL_at fn67 (Nat.le_of_ble_eq_true rfl) rfl (.inr rfl) ⟨rfl, rfl⟩]
  try simp -implicitDefEqProofs only [go_sem, Nat.reduceLT, Nat.reduceAdd, Nat.reduceSub, Nat.reduceMul, Nat.reduceEqDiff, Nat.reduceBEq, Nat.reduceLeDiff, Int.reduceToNat, Int.reduceLT, Int.reduceLE, Int.reduceEq, reduceCtorEq, ↓reduceIte, i67, c67]
  cases b1 : (eqI a0.from_ a1.from_ : Bool)
  · replace h := br_f b1 h
    cases h
    simp -implicitDefEqProofs only [go_sem, Nat.reduceLT, Nat.reduceAdd, Nat.reduceSub, Nat.reduceMul, Nat.reduceEqDiff, Nat.reduceBEq, Nat.reduceLeDiff, Int.reduceToNat, Int.reduceLT, Int.reduceLE, Int.reduceEq, reduceCtorEq, ↓reduceIte, i67, c67, b1]
  · replace h := br_t b1 h
    try simp -implicitDefEqProofs only [go_sem, Nat.reduceLT, Nat.reduceAdd, Nat.reduceSub, Nat.reduceMul, Nat.reduceEqDiff, Nat.reduceBEq, Nat.reduceLeDiff, Int.reduceToNat, Int.reduceLT, Int.reduceLE, Int.reduceEq, reduceCtorEq, ↓reduceIte, i67, c67, b1]
    cases b2 : (eqI a0.to a1.to : Bool)
    · replace h := br_f b2 h
      cases h
      simp -implicitDefEqProofs only [go_sem, Nat.reduceLT, Nat.reduceAdd, Nat.reduceSub, Nat.reduceMul, Nat.reduceEqDiff, Nat.reduceBEq, Nat.reduceLeDiff, Int.reduceToNat, Int.reduceLT, Int.reduceLE, Int.reduceEq, reduceCtorEq, ↓reduceIte, i67, c67, b1, b2]
    · replace h := br_t b2 h
      try simp -implicitDefEqProofs only [go_sem, Nat.reduceLT, Nat.reduceAdd, Nat.reduceSub, Nat.reduceMul, Nat.reduceEqDiff, Nat.reduceBEq, Nat.reduceLeDiff, Int.reduceToNat, Int.reduceLT, Int.reduceLE, Int.reduceEq, reduceCtorEq, ↓reduceIte, i67, c67, b1, b2]
      cases b3 : (eqI a0.label a1.label : Bool)
      · replace h := br_f b3 h
        cases h
        simp -implicitDefEqProofs only [go_sem, Nat.reduceLT, Nat.reduceAdd, Nat.reduceSub, Nat.reduceMul, Nat.reduceEqDiff, Nat.reduceBEq, Nat.reduceLeDiff, Int.reduceToNat, Int.reduceLT, Int.reduceLE, Int.reduceEq, reduceCtorEq, ↓reduceIte, i67, c67, b1, b2, b3]
      · replace h := br_t b3 h
        cases h
        simp -implicitDefEqProofs only [go_sem, Nat.reduceLT, Nat.reduceAdd, Nat.reduceSub, Nat.reduceMul, Nat.reduceEqDiff, Nat.reduceBEq, Nat.reduceLeDiff, Int.reduceToNat, Int.reduceLT, Int.reduceLE, Int.reduceEq, reduceCtorEq, ↓reduceIte, i67, c67, b1, b2, b3]
-- f30 laws.eqArcS
theorem call30 (args : List AV) (S : St) : evCall T (evFL T) 30 args S = lendC (evFL T 30) S (lendAll S [[3], [3]] args) := evCall0 fn30 rfl rfl rfl args S
theorem callz30 (args : List AV) (S : St) : evCallFz T (evFL T) 30 args S = lendZ (evFL T 30) S [[0]] (lendAll S [[3], [3]] args) := evCallFz0 fn30 rfl rfl rfl args S
theorem calls30 (args : List AV) (S : St) : evCall (T.at true) (evFL T) 30 args S = lendC (evFL T 30) S (lendAll S [[3], [3]] args) := evCall0 fns30 rfl rfl rfl args S
theorem callsz30 (args : List AV) (S : St) : evCallFz (T.at true) (evFL T) 30 args S = lendZ (evFL T 30) S [[0]] (lendAll S [[3], [3]] args) := evCallFz0 fns30 rfl rfl rfl args S
attribute [go_sem] call30 callz30 calls30 callsz30
noncomputable def X30_1 (a0 : (List Arc)) (a1 : (List Arc)) (o : (Unit ⊕ Unit)) : Ex × Fr × St :=
  match o with
  | .inl o => (.exit 0, frOf 27 (anyF), [])
  | .inr o => (.ret, frOf 27 (upd anyF 4 (.bool false)), [])
noncomputable def E30_1 (a0 : (List Arc)) (a1 : (List Arc)) (s : Int) : Fr × St := (frOf 27 (upd (upd (upd anyF 0 (.ts .imm 3 (a0.map encArc))) 1 (.ts .imm 3 (a1.map encArc))) 5 (.int .i64 s)), [])
theorem b30_1 (a0 : (List Arc)) (a1 : (List Arc)) (s : Int) (o : Ctl Int (Unit ⊕ Unit)) (h : m30_1b a0 a1 s = some o) : evCL T 0 k30_1b (E30_1 a0 a1 s).1 (E30_1 a0 a1 s).2 = some (ctlX (E30_1 a0 a1) (X30_1 a0 a1) o) := by
  unfold m30_1b at h
  revert h
  generalize s = s17
  intro h
  try simp -implicitDefEqProofs only [go_sem, Nat.reduceLT, Nat.reduceAdd, Nat.reduceSub, Nat.reduceMul, Nat.reduceEqDiff, Nat.reduceBEq, Nat.reduceLeDiff, Int.reduceToNat, Int.reduceLT, Int.reduceLE, Int.reduceEq, reduceCtorEq, ↓reduceIte, E30_1, X30_1, k30_1b]
  cases b18 : (ltI s17 (↑a0.length : Int) : Bool)
  · replace h := br_f b18 h
    cases h
    simp -implicitDefEqProofs only [go_sem, Nat.reduceLT, Nat.reduceAdd, Nat.reduceSub, Nat.reduceMul, Nat.reduceEqDiff, Nat.reduceBEq, Nat.reduceLeDiff, Int.reduceToNat, Int.reduceLT, Int.reduceLE, Int.reduceEq, reduceCtorEq, ↓reduceIte, E30_1, X30_1, k30_1b, b18]
  · replace h := br_t b18 h
    obtain ⟨x19, q20, h⟩ := bnd_some h
    obtain ⟨g21, g22, g23⟩ := idx_row encArc q20
    try simp -implicitDefEqProofs only [go_sem, Nat.reduceLT, Nat.reduceAdd, Nat.reduceSub, Nat.reduceMul, Nat.reduceEqDiff, Nat.reduceBEq, Nat.reduceLeDiff, Int.reduceToNat, Int.reduceLT, Int.reduceLE, Int.reduceEq, reduceCtorEq, ↓reduceIte] at g22
    try simp -implicitDefEqProofs only [go_sem, Nat.reduceLT, Nat.reduceAdd, Nat.reduceSub, Nat.reduceMul, Nat.reduceEqDiff, Nat.reduceBEq, Nat.reduceLeDiff, Int.reduceToNat, Int.reduceLT, Int.reduceLE, Int.reduceEq, reduceCtorEq, ↓reduceIte] at g23
    obtain ⟨x24, q25, h⟩ := bnd_some h
    obtain ⟨g26, g27, g28⟩ := idx_row encArc q25
    try simp -implicitDefEqProofs only [go_sem, Nat.reduceLT, Nat.reduceAdd, Nat.reduceSub, Nat.reduceMul, Nat.reduceEqDiff, Nat.reduceBEq, Nat.reduceLeDiff, Int.reduceToNat, Int.reduceLT, Int.reduceLE, Int.reduceEq, reduceCtorEq, ↓reduceIte] at g27
    try simp -implicitDefEqProofs only [go_sem, Nat.reduceLT, Nat.reduceAdd, Nat.reduceSub, Nat.reduceMul, Nat.reduceEqDiff, Nat.reduceBEq, Nat.reduceLeDiff, Int.reduceToNat, Int.reduceLT, Int.reduceLE, Int.reduceEq, reduceCtorEq, ↓reduceIte] at g28
    obtain ⟨r31, q29, h⟩ := bnd_some h
    have w30 := e67 x19 x24 r31 q29
    try simp -implicitDefEqProofs only [go_sem, Nat.reduceLT, Nat.reduceAdd, Nat.reduceSub, Nat.reduceMul, Nat.reduceEqDiff, Nat.reduceBEq, Nat.reduceLeDiff, Int.reduceToNat, Int.reduceLT, Int.reduceLE, Int.reduceEq, reduceCtorEq, ↓reduceIte] at w30
    try simp -implicitDefEqProofs only [go_sem, Nat.reduceLT, Nat.reduceAdd, Nat.reduceSub, Nat.reduceMul, Nat.reduceEqDiff, Nat.reduceBEq, Nat.reduceLeDiff, Int.reduceToNat, Int.reduceLT, Int.reduceLE, Int.reduceEq, reduceCtorEq, ↓reduceIte, E30_1, X30_1, k30_1b, b18, g21, g22, g23, g26, g27, g28, w30]
    cases b32 : (r31 : Bool)
    · replace h := br_f b32 h
      cases h
      simp -implicitDefEqProofs only [go_sem, Nat.reduceLT, Nat.reduceAdd, Nat.reduceSub, Nat.reduceMul, Nat.reduceEqDiff, Nat.reduceBEq, Nat.reduceLeDiff, Int.reduceToNat, Int.reduceLT, Int.reduceLE, Int.reduceEq, reduceCtorEq, ↓reduceIte, E30_1, X30_1, k30_1b, b18, g21, g22, g23, g26, g27, g28, w30, b32]
    · replace h := br_t b32 h
      cases h
      simp -implicitDefEqProofs only [go_sem, Nat.reduceLT, Nat.reduceAdd, Nat.reduceSub, Nat.reduceMul, Nat.reduceEqDiff, Nat.reduceBEq, Nat.reduceLeDiff, Int.reduceToNat, Int.reduceLT, Int.reduceLE, Int.reduceEq, reduceCtorEq, ↓reduceIte, E30_1, X30_1, k30_1b, b18, g21, g22, g23, g26, g27, g28, w30, b32]
theorem e30_1 (a0 : (List Arc)) (a1 : (List Arc)) (s : Int) (o : (Unit ⊕ Unit)) (h : loopP (m30_1b a0 a1) s = some o) : evCL T 0 (.loop k30_1b) (E30_1 a0 a1 s).1 (E30_1 a0 a1 s).2 = some (X30_1 a0 a1 o) :=
  loop_walk (E := E30_1 a0 a1) (X := X30_1 a0 a1) (by intro b; rcases b with b | b <;> (simp only [X30_1]; nofun)) (b30_1 a0 a1) s o h
theorem e30 (a0 : (List Arc)) (a1 : (List Arc)) (r : Bool) (h : m30 a0 a1 = some r) : evFL T 30 [.ts .imm 3 (a0.map encArc), .ts .imm 3 (a1.map encArc)] [] = some (.bool r, []) := by
  unfold m30 at h
  rw [evFL_at fn30 (Nat.le_of_ble_eq_true rfl) rfl (.inr rfl) ⟨rfl, rfl⟩]
  try simp -implicitDefEqProofs only [go_sem, Nat.reduceLT, Nat.reduceAdd, Nat.reduceSub, Nat.reduceMul, Nat.reduceEqDiff, Nat.reduceBEq, Nat.reduceLeDiff, Int.reduceToNat, Int.reduceLT, Int.reduceLE, Int.reduceEq, reduceCtorEq, ↓reduceIte, i30, c30]
  cases b1 : (eqI (↑a0.length : Int) (↑a1.length : Int) : Bool)
  · replace h := br_f b1 h
    cases h
    simp -implicitDefEqProofs only [go_sem, Nat.reduceLT, Nat.reduceAdd, Nat.reduceSub, Nat.reduceMul, Nat.reduceEqDiff, Nat.reduceBEq, Nat.reduceLeDiff, Int.reduceToNat, Int.reduceLT, Int.reduceLE, Int.reduceEq, reduceCtorEq, ↓reduceIte, i30, c30, b1]
  · replace h := br_t b1 h
    try simp -implicitDefEqProofs only [go_sem, Nat.reduceLT, Nat.reduceAdd, Nat.reduceSub, Nat.reduceMul, Nat.reduceEqDiff, Nat.reduceBEq, Nat.reduceLeDiff, Int.reduceToNat, Int.reduceLT, Int.reduceLE, Int.reduceEq, reduceCtorEq, ↓reduceIte, i30, c30, b1]
    obtain ⟨o, q33, h⟩ := bnd_some h
    rcases o with ⟨⟩ | ⟨⟩
    · replace h := selS_l h
      have w34 := e30_1 a0 a1 0 (.inl ()) q33
      simp only [E30_1, X30_1] at w34
      try simp -implicitDefEqProofs only [go_sem, Nat.reduceLT, Nat.reduceAdd, Nat.reduceSub, Nat.reduceMul, Nat.reduceEqDiff, Nat.reduceBEq, Nat.reduceLeDiff, Int.reduceToNat, Int.reduceLT, Int.reduceLE, Int.reduceEq, reduceCtorEq, ↓reduceIte] at w34
      cases h
      simp -implicitDefEqProofs only [go_sem, Nat.reduceLT, Nat.reduceAdd, Nat.reduceSub, Nat.reduceMul, Nat.reduceEqDiff, Nat.reduceBEq, Nat.reduceLeDiff, Int.reduceToNat, Int.reduceLT, Int.reduceLE, Int.reduceEq, reduceCtorEq, ↓reduceIte, i30, c30, b1, w34]
    · replace h := selS_r h
      have w34 := e30_1 a0 a1 0 (.inr ()) q33
      simp only [E30_1, X30_1] at w34
      try simp -implicitDefEqProofs only [go_sem, Nat.reduceLT, Nat.reduceAdd, Nat.reduceSub, Nat.reduceMul, Nat.reduceEqDiff, Nat.reduceBEq, Nat.reduceLeDiff, Int.reduceToNat, Int.reduceLT, Int.reduceLE, Int.reduceEq, reduceCtorEq, ↓reduceIte] at w34
      cases h
      simp -implicitDefEqProofs only [go_sem, Nat.reduceLT, Nat.reduceAdd, Nat.reduceSub, Nat.reduceMul, Nat.reduceEqDiff, Nat.reduceBEq, Nat.reduceLeDiff, Int.reduceToNat, Int.reduceLT, Int.reduceLE, Int.reduceEq, reduceCtorEq, ↓reduceIte, i30, c30, b1, w34]
-- f35 laws.markIntS
theorem call35 (args : List AV) (S : St) : evCall T (evFL T) 35 args S = c3A true true (evFL T 35) (rawAll S [[1], [0]] args) := evCall3_g fn35 rfl (fun h => absurd h.1 (by decide)) args S
theorem calls35 (args : List AV) (S : St) : evCall (T.at true) (evFL T) 35 args S = c3A false true (evFL T 35) (rawAll S [[1], [0]] args) := evCall3_g fns35 rfl (fun h => absurd h.1 (by decide)) args S
attribute [go_sem] call35 calls35
noncomputable def X35_1 (o : (Int × List Int)) : Ex × Fr × St :=
  (.exit 0, frOf 19 (upd anyF 1 (.int .i64 o.1)), [some ⟨.arr, 1, o.2.map encInt⟩])
noncomputable def E35_1 (s : (Int × Int × List Int)) : Fr × St := (frOf 19 (upd (upd (upd anyF 0 (.sl 0 0 s.2.2.length)) 1 (.int .i64 s.1)) 5 (.int .i64 s.2.1)), [some ⟨.arr, 1, s.2.2.map encInt⟩])
theorem b35_1 (s : (Int × Int × List Int)) (o : Ctl (Int × Int × List Int) (Int × List Int)) (h : m35_1b s = some o) : evCL T 1 k35_1b (E35_1 s).1 (E35_1 s).2 = some (ctlX (E35_1) (X35_1) o) := by
  unfold m35_1b at h
  obtain ⟨s7, s8, s9⟩ := s
  replace h := sel3_some h
  try simp -implicitDefEqProofs only [go_sem, Nat.reduceLT, Nat.reduceAdd, Nat.reduceSub, Nat.reduceMul, Nat.reduceEqDiff, Nat.reduceBEq, Nat.reduceLeDiff, Int.reduceToNat, Int.reduceLT, Int.reduceLE, Int.reduceEq, reduceCtorEq, ↓reduceIte, E35_1, X35_1, k35_1b]
  cases b10 : (ltI s8 (↑s9.length : Int) : Bool)
  · replace h := br_f b10 h
    cases h
    simp -implicitDefEqProofs only [go_sem, Nat.reduceLT, Nat.reduceAdd, Nat.reduceSub, Nat.reduceMul, Nat.reduceEqDiff, Nat.reduceBEq, Nat.reduceLeDiff, Int.reduceToNat, Int.reduceLT, Int.reduceLE, Int.reduceEq, reduceCtorEq, ↓reduceIte, E35_1, X35_1, k35_1b, b10]
  · replace h := br_t b10 h
    obtain ⟨x11, q12, h⟩ := bnd_some h
    obtain ⟨g13, g14, g15⟩ := idx_row encInt q12
    try simp -implicitDefEqProofs only [go_sem, Nat.reduceLT, Nat.reduceAdd, Nat.reduceSub, Nat.reduceMul, Nat.reduceEqDiff, Nat.reduceBEq, Nat.reduceLeDiff, Int.reduceToNat, Int.reduceLT, Int.reduceLE, Int.reduceEq, reduceCtorEq, ↓reduceIte] at g14
    try simp -implicitDefEqProofs only [go_sem, Nat.reduceLT, Nat.reduceAdd, Nat.reduceSub, Nat.reduceMul, Nat.reduceEqDiff, Nat.reduceBEq, Nat.reduceLeDiff, Int.reduceToNat, Int.reduceLT, Int.reduceLE, Int.reduceEq, reduceCtorEq, ↓reduceIte] at g15
    cases h
    simp -implicitDefEqProofs only [go_sem, Nat.reduceLT, Nat.reduceAdd, Nat.reduceSub, Nat.reduceMul, Nat.reduceEqDiff, Nat.reduceBEq, Nat.reduceLeDiff, Int.reduceToNat, Int.reduceLT, Int.reduceLE, Int.reduceEq, reduceCtorEq, ↓reduceIte, E35_1, X35_1, k35_1b, b10, g13, g14, g15]
theorem e35_1 (s : (Int × Int × List Int)) (o : (Int × List Int)) (h : loopP (m35_1b) s = some o) : evCL T 1 (.loop k35_1b) (E35_1 s).1 (E35_1 s).2 = some (X35_1 o) :=
  loop_walk (E := E35_1) (X := X35_1) (by intro b; (simp only [X35_1]; nofun)) (b35_1) s o h
theorem e35 (a0 : (List Int)) (a1 : Int) (r : (Int × List Int)) (h : m35 a0 a1 = some r) : evFL T 35 [.sl 0 0 a0.length, .int .i64 a1] [some ⟨.arr, 1, a0.map encInt⟩] = some (.int .i64 r.1, [some ⟨.arr, 1, r.2.map encInt⟩]) := by
  unfold m35 at h
  rw [evFL_at fn35 (Nat.le_of_ble_eq_true rfl) rfl (.inl rfl) ⟨rfl, rfl⟩]
  obtain ⟨⟨v18, v19⟩, q16, h⟩ := bnd_some h
  replace h := sel2_some h
  have w17 := e35_1 (a1, 0, a0) (v18, v19) q16
  simp only [E35_1, X35_1] at w17
  try simp -implicitDefEqProofs only [go_sem, Nat.reduceLT, Nat.reduceAdd, Nat.reduceSub, Nat.reduceMul, Nat.reduceEqDiff, Nat.reduceBEq, Nat.reduceLeDiff, Int.reduceToNat, Int.reduceLT, Int.reduceLE, Int.reduceEq, reduceCtorEq, ↓reduceIte] at w17
  cases h
  simp -implicitDefEqProofs only [go_sem, Nat.reduceLT, Nat.reduceAdd, Nat.reduceSub, Nat.reduceMul, Nat.reduceEqDiff, Nat.reduceBEq, Nat.reduceLeDiff, Int.reduceToNat, Int.reduceLT, Int.reduceLE, Int.reduceEq, reduceCtorEq, ↓reduceIte, i35, c35, w17]
-- f57 laws.markIntSS
theorem calls57 (args : List AV) (S : St) : evCall (T.at true) (evFL T) 57 args S = c3A true true (evFL T 57) (rawAll S [[1], [0]] args) := evCall3_g fns57 rfl (fun h => absurd h.2 (by decide)) args S
attribute [go_sem] calls57
noncomputable def X57_1 (o : (Int × List (List Int))) : Ex × Fr × St :=
  (.exit 0, frOf 19 (upd anyF 1 (.int .i64 o.1)), [some ⟨.arr, 1, o.2.map (encLInt .own)⟩])
noncomputable def E57_1 (s : (Int × Int × List (List Int))) : Fr × St := (frOf 19 (upd (upd (upd anyF 0 (.sl 0 0 s.2.2.length)) 1 (.int .i64 s.1)) 5 (.int .i64 s.2.1)), [some ⟨.arr, 1, s.2.2.map (encLInt .own)⟩])
theorem b57_1 (s : (Int × Int × List (List Int))) (o : Ctl (Int × Int × List (List Int)) (Int × List (List Int))) (h : m57_1b s = some o) : evCL (T.at true) 1 k57_1b (E57_1 s).1 (E57_1 s).2 = some (ctlX (E57_1) (X57_1) o) := by
  unfold m57_1b at h
  obtain ⟨s12, s13, s14⟩ := s
  replace h := sel3_some h
  try simp -implicitDefEqProofs only [go_sem, Nat.reduceLT, Nat.reduceAdd, Nat.reduceSub, Nat.reduceMul, Nat.reduceEqDiff, Nat.reduceBEq, Nat.reduceLeDiff, Int.reduceToNat, Int.reduceLT, Int.reduceLE, Int.reduceEq, reduceCtorEq, ↓reduceIte, E57_1, X57_1, k57_1b]
  cases b15 : (ltI s13 (↑s14.length : Int) : Bool)
  · replace h := br_f b15 h
    cases h
    simp -implicitDefEqProofs only [go_sem, Nat.reduceLT, Nat.reduceAdd, Nat.reduceSub, Nat.reduceMul, Nat.reduceEqDiff, Nat.reduceBEq, Nat.reduceLeDiff, Int.reduceToNat, Int.reduceLT, Int.reduceLE, Int.reduceEq, reduceCtorEq, ↓reduceIte, E57_1, X57_1, k57_1b, b15]
  · replace h := br_t b15 h
    obtain ⟨x16, q17, h⟩ := bnd_some h
    obtain ⟨g18, g19, g20⟩ := idx_row (encLInt .own) q17
    try simp -implicitDefEqProofs only [go_sem, Nat.reduceLT, Nat.reduceAdd, Nat.reduceSub, Nat.reduceMul, Nat.reduceEqDiff, Nat.reduceBEq, Nat.reduceLeDiff, Int.reduceToNat, Int.reduceLT, Int.reduceLE, Int.reduceEq, reduceCtorEq, ↓reduceIte] at g19
    try simp -implicitDefEqProofs only [go_sem, Nat.reduceLT, Nat.reduceAdd, Nat.reduceSub, Nat.reduceMul, Nat.reduceEqDiff, Nat.reduceBEq, Nat.reduceLeDiff, Int.reduceToNat, Int.reduceLT, Int.reduceLE, Int.reduceEq, reduceCtorEq, ↓reduceIte] at g20
    obtain ⟨⟨r23, r24⟩, q21, h⟩ := bnd_some h
    replace h := sel2_some h
    have w22 := e35 x16 s12 (r23, r24) q21
    try simp -implicitDefEqProofs only [go_sem, Nat.reduceLT, Nat.reduceAdd, Nat.reduceSub, Nat.reduceMul, Nat.reduceEqDiff, Nat.reduceBEq, Nat.reduceLeDiff, Int.reduceToNat, Int.reduceLT, Int.reduceLE, Int.reduceEq, reduceCtorEq, ↓reduceIte] at w22
    obtain ⟨g25, h⟩ := ck_some h
    try simp -implicitDefEqProofs only [go_sem, Nat.reduceLT, Nat.reduceAdd, Nat.reduceSub, Nat.reduceMul, Nat.reduceEqDiff, Nat.reduceBEq, Nat.reduceLeDiff, Int.reduceToNat, Int.reduceLT, Int.reduceLE, Int.reduceEq, reduceCtorEq, ↓reduceIte] at g25
    cases h
    simp -implicitDefEqProofs only [go_sem, Nat.reduceLT, Nat.reduceAdd, Nat.reduceSub, Nat.reduceMul, Nat.reduceEqDiff, Nat.reduceBEq, Nat.reduceLeDiff, Int.reduceToNat, Int.reduceLT, Int.reduceLE, Int.reduceEq, reduceCtorEq, ↓reduceIte, E57_1, X57_1, k57_1b, b15, g18, g19, g20, w22, g25, take_of_len_map g25]
theorem e57_1 (s : (Int × Int × List (List Int))) (o : (Int × List (List Int))) (h : loopP (m57_1b) s = some o) : evCL (T.at true) 1 (.loop k57_1b) (E57_1 s).1 (E57_1 s).2 = some (X57_1 o) :=
  loop_walk (E := E57_1) (X := X57_1) (by intro b; (simp only [X57_1]; nofun)) (b57_1) s o h
theorem e57 (a0 : (List (List Int))) (a1 : Int) (r : (Int × List (List Int))) (h : m57 a0 a1 = some r) : evFL T 57 [.sl 0 0 a0.length, .int .i64 a1] [some ⟨.arr, 1, a0.map (encLInt .own)⟩] = some (.int .i64 r.1, [some ⟨.arr, 1, r.2.map (encLInt .own)⟩]) := by
  unfold m57 at h
  rw [evFL_atS fn57 (Nat.le_of_ble_eq_true rfl) rfl (.inl rfl) ⟨rfl, rfl⟩]
  obtain ⟨⟨v28, v29⟩, q26, h⟩ := bnd_some h
  replace h := sel2_some h
  have w27 := e57_1 (a1, 0, a0) (v28, v29) q26
  simp only [E57_1, X57_1] at w27
  try simp -implicitDefEqProofs only [go_sem, Nat.reduceLT, Nat.reduceAdd, Nat.reduceSub, Nat.reduceMul, Nat.reduceEqDiff, Nat.reduceBEq, Nat.reduceLeDiff, Int.reduceToNat, Int.reduceLT, Int.reduceLE, Int.reduceEq, reduceCtorEq, ↓reduceIte] at w27
  cases h
  simp -implicitDefEqProofs only [go_sem, Nat.reduceLT, Nat.reduceAdd, Nat.reduceSub, Nat.reduceMul, Nat.reduceEqDiff, Nat.reduceBEq, Nat.reduceLeDiff, Int.reduceToNat, Int.reduceLT, Int.reduceLE, Int.reduceEq, reduceCtorEq, ↓reduceIte, i57, c57, w27]
-- f23 laws.markAlgebra
theorem calls23 (args : List AV) (S : St) : evCall (T.at true) (evFL T) 23 args S = c3A true true (evFL T 23) (rawAll S [[0, 1], [0]] args) := evCall3_g fns23 rfl (fun h => absurd h.2 (by decide)) args S
attribute [go_sem] calls23
theorem e23 (a0 : Algebra) (a1 : Int) (r : (Int × List (List Int))) (h : m23 a0 a1 = some r) : evFL T 23 [.agg [.int .i64 a0.weights, .sl 0 0 a0.apply.length], .int .i64 a1] [some ⟨.arr, 1, a0.apply.map (encLInt .own)⟩] = some (.int .i64 r.1, [some ⟨.arr, 1, r.2.map (encLInt .own)⟩]) := by
  unfold m23 at h
  rw [evFL_atS fn23 (Nat.le_of_ble_eq_true rfl) rfl (.inl rfl) ⟨rfl, rfl⟩]
  obtain ⟨⟨r3, r4⟩, q1, h⟩ := bnd_some h
  replace h := sel2_some h
  have w2 := e57 a0.apply a1 (r3, r4) q1
  try simp -implicitDefEqProofs only [go_sem, Nat.reduceLT, Nat.reduceAdd, Nat.reduceSub, Nat.reduceMul, Nat.reduceEqDiff, Nat.reduceBEq, Nat.reduceLeDiff, Int.reduceToNat, Int.reduceLT, Int.reduceLE, Int.reduceEq, reduceCtorEq, ↓reduceIte] at w2
  obtain ⟨g5, h⟩ := ck_some h
  try simp -implicitDefEqProofs only [go_sem, Nat.reduceLT, Nat.reduceAdd, Nat.reduceSub, Nat.reduceMul, Nat.reduceEqDiff, Nat.reduceBEq, Nat.reduceLeDiff, Int.reduceToNat, Int.reduceLT, Int.reduceLE, Int.reduceEq, reduceCtorEq, ↓reduceIte] at g5
  cases h
  simp -implicitDefEqProofs only [go_sem, Nat.reduceLT, Nat.reduceAdd, Nat.reduceSub, Nat.reduceMul, Nat.reduceEqDiff, Nat.reduceBEq, Nat.reduceLeDiff, Int.reduceToNat, Int.reduceLT, Int.reduceLE, Int.reduceEq, reduceCtorEq, ↓reduceIte, i23, c23, w2, g5, take_of_len_map g5]
-- f34 laws.markArcS
theorem call34 (args : List AV) (S : St) : evCall T (evFL T) 34 args S = c3A true true (evFL T 34) (rawAll S [[3], [0]] args) := evCall3_g fn34 rfl (fun h => absurd h.1 (by decide)) args S
theorem calls34 (args : List AV) (S : St) : evCall (T.at true) (evFL T) 34 args S = c3A false true (evFL T 34) (rawAll S [[3], [0]] args) := evCall3_g fns34 rfl (fun h => absurd h.1 (by decide)) args S
attribute [go_sem] call34 calls34
noncomputable def X34_1 (o : (Int × List Arc)) : Ex × Fr × St :=
  (.exit 0, frOf 34 (upd anyF 1 (.int .i64 o.1)), [some ⟨.arr, 3, o.2.map encArc⟩])
noncomputable def E34_1 (s : (Int × Int × List Arc)) : Fr × St := (frOf 34 (upd (upd (upd anyF 0 (.sl 0 0 s.2.2.length)) 1 (.int .i64 s.1)) 5 (.int .i64 s.2.1)), [some ⟨.arr, 3, s.2.2.map encArc⟩])
theorem b34_1 (s : (Int × Int × List Arc)) (o : Ctl (Int × Int × List Arc) (Int × List Arc)) (h : m34_1b s = some o) : evCL T 1 k34_1b (E34_1 s).1 (E34_1 s).2 = some (ctlX (E34_1) (X34_1) o) := by
  unfold m34_1b at h
  obtain ⟨s7, s8, s9⟩ := s
  replace h := sel3_some h
  try simp -implicitDefEqProofs only [go_sem, Nat.reduceLT, Nat.reduceAdd, Nat.reduceSub, Nat.reduceMul, Nat.reduceEqDiff, Nat.reduceBEq, Nat.reduceLeDiff, Int.reduceToNat, Int.reduceLT, Int.reduceLE, Int.reduceEq, reduceCtorEq, ↓reduceIte, E34_1, X34_1, k34_1b]
  cases b10 : (ltI s8 (↑s9.length : Int) : Bool)
  · replace h := br_f b10 h
    cases h
    simp -implicitDefEqProofs only [go_sem, Nat.reduceLT, Nat.reduceAdd, Nat.reduceSub, Nat.reduceMul, Nat.reduceEqDiff, Nat.reduceBEq, Nat.reduceLeDiff, Int.reduceToNat, Int.reduceLT, Int.reduceLE, Int.reduceEq, reduceCtorEq, ↓reduceIte, E34_1, X34_1, k34_1b, b10]
  · replace h := br_t b10 h
    obtain ⟨x11, q12, h⟩ := bnd_some h
    obtain ⟨g13, g14, g15⟩ := idx_row encArc q12
    try simp -implicitDefEqProofs only [go_sem, Nat.reduceLT, Nat.reduceAdd, Nat.reduceSub, Nat.reduceMul, Nat.reduceEqDiff, Nat.reduceBEq, Nat.reduceLeDiff, Int.reduceToNat, Int.reduceLT, Int.reduceLE, Int.reduceEq, reduceCtorEq, ↓reduceIte] at g14
    try simp -implicitDefEqProofs only [go_sem, Nat.reduceLT, Nat.reduceAdd, Nat.reduceSub, Nat.reduceMul, Nat.reduceEqDiff, Nat.reduceBEq, Nat.reduceLeDiff, Int.reduceToNat, Int.reduceLT, Int.reduceLE, Int.reduceEq, reduceCtorEq, ↓reduceIte] at g15
    cases h
    simp -implicitDefEqProofs only [go_sem, Nat.reduceLT, Nat.reduceAdd, Nat.reduceSub, Nat.reduceMul, Nat.reduceEqDiff, Nat.reduceBEq, Nat.reduceLeDiff, Int.reduceToNat, Int.reduceLT, Int.reduceLE, Int.reduceEq, reduceCtorEq, ↓reduceIte, E34_1, X34_1, k34_1b, b10, g13, g14, g15]
theorem e34_1 (s : (Int × Int × List Arc)) (o : (Int × List Arc)) (h : loopP (m34_1b) s = some o) : evCL T 1 (.loop k34_1b) (E34_1 s).1 (E34_1 s).2 = some (X34_1 o) :=
  loop_walk (E := E34_1) (X := X34_1) (by intro b; (simp only [X34_1]; nofun)) (b34_1) s o h
theorem e34 (a0 : (List Arc)) (a1 : Int) (r : (Int × List Arc)) (h : m34 a0 a1 = some r) : evFL T 34 [.sl 0 0 a0.length, .int .i64 a1] [some ⟨.arr, 3, a0.map encArc⟩] = some (.int .i64 r.1, [some ⟨.arr, 3, r.2.map encArc⟩]) := by
  unfold m34 at h
  rw [evFL_at fn34 (Nat.le_of_ble_eq_true rfl) rfl (.inl rfl) ⟨rfl, rfl⟩]
  obtain ⟨⟨v18, v19⟩, q16, h⟩ := bnd_some h
  replace h := sel2_some h
  have w17 := e34_1 (a1, 0, a0) (v18, v19) q16
  simp only [E34_1, X34_1] at w17
  try simp -implicitDefEqProofs only [go_sem, Nat.reduceLT, Nat.reduceAdd, Nat.reduceSub, Nat.reduceMul, Nat.reduceEqDiff, Nat.reduceBEq, Nat.reduceLeDiff, Int.reduceToNat, Int.reduceLT, Int.reduceLE, Int.reduceEq, reduceCtorEq, ↓reduceIte] at w17
  cases h
  simp -implicitDefEqProofs only [go_sem, Nat.reduceLT, Nat.reduceAdd, Nat.reduceSub, Nat.reduceMul, Nat.reduceEqDiff, Nat.reduceBEq, Nat.reduceLeDiff, Int.reduceToNat, Int.reduceLT, Int.reduceLE, Int.reduceEq, reduceCtorEq, ↓reduceIte, i34, c34, w17]
-- f36 laws.heldIntS
theorem call36 (args : List AV) (S : St) : evCall T (evFL T) 36 args S = lendC (evFL T 36) S (lendAll S [[1], [0]] args) := evCall0 fn36 rfl rfl rfl args S
theorem callz36 (args : List AV) (S : St) : evCallFz T (evFL T) 36 args S = lendZ (evFL T 36) S [[0]] (lendAll S [[1], [0]] args) := evCallFz0 fn36 rfl rfl rfl args S
theorem calls36 (args : List AV) (S : St) : evCall (T.at true) (evFL T) 36 args S = lendC (evFL T 36) S (lendAll S [[1], [0]] args) := evCall0 fns36 rfl rfl rfl args S
theorem callsz36 (args : List AV) (S : St) : evCallFz (T.at true) (evFL T) 36 args S = lendZ (evFL T 36) S [[0]] (lendAll S [[1], [0]] args) := evCallFz0 fns36 rfl rfl rfl args S
attribute [go_sem] call36 callz36 calls36 callsz36
noncomputable def X36_1 (a0 : (List Int)) (o : (Int ⊕ Unit)) : Ex × Fr × St :=
  match o with
  | .inl o => (.exit 0, frOf 21 (upd anyF 1 (.int .i64 o)), [])
  | .inr o => (.ret, frOf 21 (upd anyF 4 (.int .i64 (-1))), [])
noncomputable def E36_1 (a0 : (List Int)) (s : (Int × Int)) : Fr × St := (frOf 21 (upd (upd (upd anyF 0 (.ts .imm 1 (a0.map encInt))) 1 (.int .i64 s.1)) 5 (.int .i64 s.2)), [])
theorem b36_1 (a0 : (List Int)) (s : (Int × Int)) (o : Ctl (Int × Int) (Int ⊕ Unit)) (h : m36_1b a0 s = some o) : evCL T 0 k36_1b (E36_1 a0 s).1 (E36_1 a0 s).2 = some (ctlX (E36_1 a0) (X36_1 a0) o) := by
  unfold m36_1b at h
  obtain ⟨s8, s9⟩ := s
  replace h := sel2_some h
  try simp -implicitDefEqProofs only [go_sem, Nat.reduceLT, Nat.reduceAdd, Nat.reduceSub, Nat.reduceMul, Nat.reduceEqDiff, Nat.reduceBEq, Nat.reduceLeDiff, Int.reduceToNat, Int.reduceLT, Int.reduceLE, Int.reduceEq, reduceCtorEq, ↓reduceIte, E36_1, X36_1, k36_1b]
  cases b10 : (ltI s9 (↑a0.length : Int) : Bool)
  · replace h := br_f b10 h
    cases h
    simp -implicitDefEqProofs only [go_sem, Nat.reduceLT, Nat.reduceAdd, Nat.reduceSub, Nat.reduceMul, Nat.reduceEqDiff, Nat.reduceBEq, Nat.reduceLeDiff, Int.reduceToNat, Int.reduceLT, Int.reduceLE, Int.reduceEq, reduceCtorEq, ↓reduceIte, E36_1, X36_1, k36_1b, b10]
  · replace h := br_t b10 h
    obtain ⟨x11, q12, h⟩ := bnd_some h
    obtain ⟨g13, g14, g15⟩ := idx_row encInt q12
    try simp -implicitDefEqProofs only [go_sem, Nat.reduceLT, Nat.reduceAdd, Nat.reduceSub, Nat.reduceMul, Nat.reduceEqDiff, Nat.reduceBEq, Nat.reduceLeDiff, Int.reduceToNat, Int.reduceLT, Int.reduceLE, Int.reduceEq, reduceCtorEq, ↓reduceIte] at g14
    try simp -implicitDefEqProofs only [go_sem, Nat.reduceLT, Nat.reduceAdd, Nat.reduceSub, Nat.reduceMul, Nat.reduceEqDiff, Nat.reduceBEq, Nat.reduceLeDiff, Int.reduceToNat, Int.reduceLT, Int.reduceLE, Int.reduceEq, reduceCtorEq, ↓reduceIte] at g15
    try simp -implicitDefEqProofs only [go_sem, Nat.reduceLT, Nat.reduceAdd, Nat.reduceSub, Nat.reduceMul, Nat.reduceEqDiff, Nat.reduceBEq, Nat.reduceLeDiff, Int.reduceToNat, Int.reduceLT, Int.reduceLE, Int.reduceEq, reduceCtorEq, ↓reduceIte, E36_1, X36_1, k36_1b, b10, g13, g14, g15]
    cases b16 : (eqI x11 s8 : Bool)
    · replace h := br_f b16 h
      cases h
      simp -implicitDefEqProofs only [go_sem, Nat.reduceLT, Nat.reduceAdd, Nat.reduceSub, Nat.reduceMul, Nat.reduceEqDiff, Nat.reduceBEq, Nat.reduceLeDiff, Int.reduceToNat, Int.reduceLT, Int.reduceLE, Int.reduceEq, reduceCtorEq, ↓reduceIte, E36_1, X36_1, k36_1b, b10, g13, g14, g15, b16]
    · replace h := br_t b16 h
      cases h
      simp -implicitDefEqProofs only [go_sem, Nat.reduceLT, Nat.reduceAdd, Nat.reduceSub, Nat.reduceMul, Nat.reduceEqDiff, Nat.reduceBEq, Nat.reduceLeDiff, Int.reduceToNat, Int.reduceLT, Int.reduceLE, Int.reduceEq, reduceCtorEq, ↓reduceIte, E36_1, X36_1, k36_1b, b10, g13, g14, g15, b16]
theorem e36_1 (a0 : (List Int)) (s : (Int × Int)) (o : (Int ⊕ Unit)) (h : loopP (m36_1b a0) s = some o) : evCL T 0 (.loop k36_1b) (E36_1 a0 s).1 (E36_1 a0 s).2 = some (X36_1 a0 o) :=
  loop_walk (E := E36_1 a0) (X := X36_1 a0) (by intro b; rcases b with b | b <;> (simp only [X36_1]; nofun)) (b36_1 a0) s o h
theorem e36 (a0 : (List Int)) (a1 : Int) (r : Int) (h : m36 a0 a1 = some r) : evFL T 36 [.ts .imm 1 (a0.map encInt), .int .i64 a1] [] = some (.int .i64 r, []) := by
  unfold m36 at h
  rw [evFL_at fn36 (Nat.le_of_ble_eq_true rfl) rfl (.inr rfl) ⟨rfl, rfl⟩]
  try simp -implicitDefEqProofs only [go_sem, Nat.reduceLT, Nat.reduceAdd, Nat.reduceSub, Nat.reduceMul, Nat.reduceEqDiff, Nat.reduceBEq, Nat.reduceLeDiff, Int.reduceToNat, Int.reduceLT, Int.reduceLE, Int.reduceEq, reduceCtorEq, ↓reduceIte, i36, c36]
  obtain ⟨o, q17, h⟩ := bnd_some h
  rcases o with v19 | ⟨⟩
  · replace h := selS_l h
    have w18 := e36_1 a0 (a1, 0) (.inl v19) q17
    simp only [E36_1, X36_1] at w18
    try simp -implicitDefEqProofs only [go_sem, Nat.reduceLT, Nat.reduceAdd, Nat.reduceSub, Nat.reduceMul, Nat.reduceEqDiff, Nat.reduceBEq, Nat.reduceLeDiff, Int.reduceToNat, Int.reduceLT, Int.reduceLE, Int.reduceEq, reduceCtorEq, ↓reduceIte] at w18
    cases h
    simp -implicitDefEqProofs only [go_sem, Nat.reduceLT, Nat.reduceAdd, Nat.reduceSub, Nat.reduceMul, Nat.reduceEqDiff, Nat.reduceBEq, Nat.reduceLeDiff, Int.reduceToNat, Int.reduceLT, Int.reduceLE, Int.reduceEq, reduceCtorEq, ↓reduceIte, i36, c36, w18]
  · replace h := selS_r h
    have w18 := e36_1 a0 (a1, 0) (.inr ()) q17
    simp only [E36_1, X36_1] at w18
    try simp -implicitDefEqProofs only [go_sem, Nat.reduceLT, Nat.reduceAdd, Nat.reduceSub, Nat.reduceMul, Nat.reduceEqDiff, Nat.reduceBEq, Nat.reduceLeDiff, Int.reduceToNat, Int.reduceLT, Int.reduceLE, Int.reduceEq, reduceCtorEq, ↓reduceIte] at w18
    cases h
    simp -implicitDefEqProofs only [go_sem, Nat.reduceLT, Nat.reduceAdd, Nat.reduceSub, Nat.reduceMul, Nat.reduceEqDiff, Nat.reduceBEq, Nat.reduceLeDiff, Int.reduceToNat, Int.reduceLT, Int.reduceLE, Int.reduceEq, reduceCtorEq, ↓reduceIte, i36, c36, w18]
-- f9 laws.FnExactBestTo
noncomputable def X9_1 (a1 : (List Arc)) (a2 : Int) (r18 : Bool) (r26 : Bool) (a0 : Algebra) (r17 : (List Int)) (r11 : Algebra) (r14 : (List Arc)) (r25 : (List Int)) (o : Bool) : Ex × Fr × St :=
  (.normal, frOf 124 (upd (upd (upd (upd (upd (upd (upd (upd (upd (upd anyF 1 (.ts .imm 3 (a1.map encArc))) 2 (.int .i64 a2)) 3 (.ptr 0 0 0)) 8 (.sl 1 0 r17.length)) 9 (.bool r18)) 10 (.ptr 2 0 0)) 11 (.sl 4 0 r14.length)) 12 (.sl 5 0 r25.length)) 13 (.bool r26)) 57 (.bool o)), [some ⟨.box, 2, [[.int .i64 a0.weights, .ts .imm 1 (a0.apply.map (encLInt .imm))]]⟩, some ⟨.arr, 1, r17.map encInt⟩, some ⟨.box, 2, [[.int .i64 r11.weights, .sl 3 0 r11.apply.length]]⟩, some ⟨.arr, 1, r11.apply.map (encLInt .own)⟩, some ⟨.arr, 3, r14.map encArc⟩, some ⟨.arr, 1, r25.map encInt⟩])
theorem e9_1 (a1 : (List Arc)) (a2 : Int) (r18 : Bool) (r26 : Bool) (a0 : Algebra) (r17 : (List Int)) (r11 : Algebra) (r14 : (List Arc)) (r25 : (List Int)) (o : Bool) (h : m9_1 r18 r26 r17 r25 = some o) : evCL (T.at true) 0 k9_1 (frOf 124 (upd (upd (upd (upd (upd (upd (upd (upd (upd anyF 1 (.ts .imm 3 (a1.map encArc))) 2 (.int .i64 a2)) 3 (.ptr 0 0 0)) 8 (.sl 1 0 r17.length)) 9 (.bool r18)) 10 (.ptr 2 0 0)) 11 (.sl 4 0 r14.length)) 12 (.sl 5 0 r25.length)) 13 (.bool r26))) [some ⟨.box, 2, [[.int .i64 a0.weights, .ts .imm 1 (a0.apply.map (encLInt .imm))]]⟩, some ⟨.arr, 1, r17.map encInt⟩, some ⟨.box, 2, [[.int .i64 r11.weights, .sl 3 0 r11.apply.length]]⟩, some ⟨.arr, 1, r11.apply.map (encLInt .own)⟩, some ⟨.arr, 3, r14.map encArc⟩, some ⟨.arr, 1, r25.map encInt⟩] = some (X9_1 a1 a2 r18 r26 a0 r17 r11 r14 r25 o) := by
  unfold m9_1 at h
  obtain ⟨r29, q27, h⟩ := bnd_some h
  have w28 := e31 r25 r17 r29 q27
  try simp -implicitDefEqProofs only [go_sem, Nat.reduceLT, Nat.reduceAdd, Nat.reduceSub, Nat.reduceMul, Nat.reduceEqDiff, Nat.reduceBEq, Nat.reduceLeDiff, Int.reduceToNat, Int.reduceLT, Int.reduceLE, Int.reduceEq, reduceCtorEq, ↓reduceIte] at w28
  try simp -implicitDefEqProofs only [go_sem, Nat.reduceLT, Nat.reduceAdd, Nat.reduceSub, Nat.reduceMul, Nat.reduceEqDiff, Nat.reduceBEq, Nat.reduceLeDiff, Int.reduceToNat, Int.reduceLT, Int.reduceLE, Int.reduceEq, reduceCtorEq, ↓reduceIte, X9_1, k9_1, w28]
  cases b30 : (r29 : Bool)
  · replace h := br_f b30 h
    cases h
    simp -implicitDefEqProofs only [go_sem, Nat.reduceLT, Nat.reduceAdd, Nat.reduceSub, Nat.reduceMul, Nat.reduceEqDiff, Nat.reduceBEq, Nat.reduceLeDiff, Int.reduceToNat, Int.reduceLT, Int.reduceLE, Int.reduceEq, reduceCtorEq, ↓reduceIte, X9_1, k9_1, w28, b30]
  · replace h := br_t b30 h
    cases h
    simp -implicitDefEqProofs only [go_sem, Nat.reduceLT, Nat.reduceAdd, Nat.reduceSub, Nat.reduceMul, Nat.reduceEqDiff, Nat.reduceBEq, Nat.reduceLeDiff, Int.reduceToNat, Int.reduceLT, Int.reduceLE, Int.reduceEq, reduceCtorEq, ↓reduceIte, X9_1, k9_1, w28, b30]
noncomputable def X9_2 (a1 : (List Arc)) (a2 : Int) (r18 : Bool) (r26 : Bool) (r54 : Int) (a0 : Algebra) (r17 : (List Int)) (r25 : (List Int)) (o : Bool) : Ex × Fr × St :=
  (.normal, frOf 124 (upd (upd (upd (upd (upd (upd (upd anyF 1 (.ts .imm 3 (a1.map encArc))) 2 (.int .i64 a2)) 3 (.ptr 0 0 0)) 8 (.sl 1 0 r17.length)) 9 (.bool r18)) 12 (.sl 2 0 r25.length)) 86 (.bool o)), [some ⟨.box, 2, [[.int .i64 a0.weights, .ts .imm 1 (a0.apply.map (encLInt .imm))]]⟩, some ⟨.arr, 1, r17.map encInt⟩, some ⟨.arr, 1, r25.map encInt⟩])
theorem e9_2 (a1 : (List Arc)) (a2 : Int) (r18 : Bool) (r26 : Bool) (r54 : Int) (a0 : Algebra) (r17 : (List Int)) (r25 : (List Int)) (o : Bool) (h : m9_2 r18 r26 r54 r17 r25 = some o) : evCL (T.at true) 0 k9_2 (frOf 124 (upd (upd (upd (upd (upd (upd (upd (upd anyF 1 (.ts .imm 3 (a1.map encArc))) 2 (.int .i64 a2)) 3 (.ptr 0 0 0)) 8 (.sl 1 0 r17.length)) 9 (.bool r18)) 12 (.sl 2 0 r25.length)) 13 (.bool r26)) 14 (.int .i64 r54))) [some ⟨.box, 2, [[.int .i64 a0.weights, .ts .imm 1 (a0.apply.map (encLInt .imm))]]⟩, some ⟨.arr, 1, r17.map encInt⟩, some ⟨.arr, 1, r25.map encInt⟩] = some (X9_2 a1 a2 r18 r26 r54 a0 r17 r25 o) := by
  unfold m9_2 at h
  try simp -implicitDefEqProofs only [go_sem, Nat.reduceLT, Nat.reduceAdd, Nat.reduceSub, Nat.reduceMul, Nat.reduceEqDiff, Nat.reduceBEq, Nat.reduceLeDiff, Int.reduceToNat, Int.reduceLT, Int.reduceLE, Int.reduceEq, reduceCtorEq, ↓reduceIte, X9_2, k9_2]
  cases b57 : (ltI r54 0 : Bool)
  · replace h := br_f b57 h
    obtain ⟨r60, q58, h⟩ := bnd_some h
    have w59 := e31 r25 r17 r60 q58
    try simp -implicitDefEqProofs only [go_sem, Nat.reduceLT, Nat.reduceAdd, Nat.reduceSub, Nat.reduceMul, Nat.reduceEqDiff, Nat.reduceBEq, Nat.reduceLeDiff, Int.reduceToNat, Int.reduceLT, Int.reduceLE, Int.reduceEq, reduceCtorEq, ↓reduceIte] at w59
    try simp -implicitDefEqProofs only [go_sem, Nat.reduceLT, Nat.reduceAdd, Nat.reduceSub, Nat.reduceMul, Nat.reduceEqDiff, Nat.reduceBEq, Nat.reduceLeDiff, Int.reduceToNat, Int.reduceLT, Int.reduceLE, Int.reduceEq, reduceCtorEq, ↓reduceIte, X9_2, k9_2, b57, w59]
    cases b61 : (r60 : Bool)
    · replace h := br_f b61 h
      cases h
      simp -implicitDefEqProofs only [go_sem, Nat.reduceLT, Nat.reduceAdd, Nat.reduceSub, Nat.reduceMul, Nat.reduceEqDiff, Nat.reduceBEq, Nat.reduceLeDiff, Int.reduceToNat, Int.reduceLT, Int.reduceLE, Int.reduceEq, reduceCtorEq, ↓reduceIte, X9_2, k9_2, b57, w59, b61]
    · replace h := br_t b61 h
      cases h
      simp -implicitDefEqProofs only [go_sem, Nat.reduceLT, Nat.reduceAdd, Nat.reduceSub, Nat.reduceMul, Nat.reduceEqDiff, Nat.reduceBEq, Nat.reduceLeDiff, Int.reduceToNat, Int.reduceLT, Int.reduceLE, Int.reduceEq, reduceCtorEq, ↓reduceIte, X9_2, k9_2, b57, w59, b61]
  · replace h := br_t b57 h
    cases h
    simp -implicitDefEqProofs only [go_sem, Nat.reduceLT, Nat.reduceAdd, Nat.reduceSub, Nat.reduceMul, Nat.reduceEqDiff, Nat.reduceBEq, Nat.reduceLeDiff, Int.reduceToNat, Int.reduceLT, Int.reduceLE, Int.reduceEq, reduceCtorEq, ↓reduceIte, X9_2, k9_2, b57]
noncomputable def X9_3 (r18 : Bool) (r68 : Int) (r26 : Bool) (r17 : (List Int)) (r69 : List Int) (r25 : (List Int)) (o : Bool) : Ex × Fr × St :=
  (.normal, frOf 124 (upd (upd (upd anyF 12 (.sl 0 0 r69.length)) 15 (.int .i64 r68)) 115 (.bool o)), [some ⟨.arr, 1, r69.map encInt⟩])
theorem e9_3 (r18 : Bool) (r68 : Int) (r26 : Bool) (r17 : (List Int)) (r69 : List Int) (r25 : (List Int)) (o : Bool) (h : m9_3 r18 r26 r17 r25 = some o) : evCL (T.at true) 0 k9_3 (frOf 124 (upd (upd (upd (upd (upd (upd anyF 8 (.sl 0 0 r17.length)) 9 (.bool r18)) 12 (.sl 1 0 r69.length)) 15 (.int .i64 r68)) 17 (.sl 2 0 r25.length)) 18 (.bool r26))) [some ⟨.arr, 1, r17.map encInt⟩, some ⟨.arr, 1, r69.map encInt⟩, some ⟨.arr, 1, r25.map encInt⟩] = some (X9_3 r18 r68 r26 r17 r69 r25 o) := by
  unfold m9_3 at h
  obtain ⟨r84, q82, h⟩ := bnd_some h
  have w83 := e31 r25 r17 r84 q82
  try simp -implicitDefEqProofs only [go_sem, Nat.reduceLT, Nat.reduceAdd, Nat.reduceSub, Nat.reduceMul, Nat.reduceEqDiff, Nat.reduceBEq, Nat.reduceLeDiff, Int.reduceToNat, Int.reduceLT, Int.reduceLE, Int.reduceEq, reduceCtorEq, ↓reduceIte] at w83
  try simp -implicitDefEqProofs only [go_sem, Nat.reduceLT, Nat.reduceAdd, Nat.reduceSub, Nat.reduceMul, Nat.reduceEqDiff, Nat.reduceBEq, Nat.reduceLeDiff, Int.reduceToNat, Int.reduceLT, Int.reduceLE, Int.reduceEq, reduceCtorEq, ↓reduceIte, X9_3, k9_3, w83]
  cases b85 : (r84 : Bool)
  · replace h := br_f b85 h
    cases h
    simp -implicitDefEqProofs only [go_sem, Nat.reduceLT, Nat.reduceAdd, Nat.reduceSub, Nat.reduceMul, Nat.reduceEqDiff, Nat.reduceBEq, Nat.reduceLeDiff, Int.reduceToNat, Int.reduceLT, Int.reduceLE, Int.reduceEq, reduceCtorEq, ↓reduceIte, X9_3, k9_3, w83, b85]
  · replace h := br_t b85 h
    cases h
    simp -implicitDefEqProofs only [go_sem, Nat.reduceLT, Nat.reduceAdd, Nat.reduceSub, Nat.reduceMul, Nat.reduceEqDiff, Nat.reduceBEq, Nat.reduceLeDiff, Int.reduceToNat, Int.reduceLT, Int.reduceLE, Int.reduceEq, reduceCtorEq, ↓reduceIte, X9_3, k9_3, w83, b85]
theorem e9 (a0 : Algebra) (a1 : (List Arc)) (a2 : Int) (r : Bool) (h : m9 a0 a1 a2 = some r) : evFL T 9 [.agg [.int .i64 a0.weights, .ts .imm 1 (a0.apply.map (encLInt .imm))], .ts .imm 3 (a1.map encArc), .int .i64 a2] [] = some (.bool r, []) := by
  unfold m9 at h
  rw [evFL_atS fn9 (Nat.le_of_ble_eq_true rfl) rfl (.inr rfl) ⟨rfl, rfl⟩]
  obtain ⟨r3, q1, h⟩ := bnd_some h
  have w2 := e12 a0 1048576 r3 q1
  try simp -implicitDefEqProofs only [go_sem, Nat.reduceLT, Nat.reduceAdd, Nat.reduceSub, Nat.reduceMul, Nat.reduceEqDiff, Nat.reduceBEq, Nat.reduceLeDiff, Int.reduceToNat, Int.reduceLT, Int.reduceLE, Int.reduceEq, reduceCtorEq, ↓reduceIte] at w2
  try simp -implicitDefEqProofs only [go_sem, Nat.reduceLT, Nat.reduceAdd, Nat.reduceSub, Nat.reduceMul, Nat.reduceEqDiff, Nat.reduceBEq, Nat.reduceLeDiff, Int.reduceToNat, Int.reduceLT, Int.reduceLE, Int.reduceEq, reduceCtorEq, ↓reduceIte, i9, c9, w2]
  cases b4 : (ltI r3 0 : Bool)
  · replace h := br_f b4 h
    obtain ⟨r7, q5, h⟩ := bnd_some h
    have w6 := e25 a1 r3 r7 q5
    try simp -implicitDefEqProofs only [go_sem, Nat.reduceLT, Nat.reduceAdd, Nat.reduceSub, Nat.reduceMul, Nat.reduceEqDiff, Nat.reduceBEq, Nat.reduceLeDiff, Int.reduceToNat, Int.reduceLT, Int.reduceLE, Int.reduceEq, reduceCtorEq, ↓reduceIte] at w6
    try simp -implicitDefEqProofs only [go_sem, Nat.reduceLT, Nat.reduceAdd, Nat.reduceSub, Nat.reduceMul, Nat.reduceEqDiff, Nat.reduceBEq, Nat.reduceLeDiff, Int.reduceToNat, Int.reduceLT, Int.reduceLE, Int.reduceEq, reduceCtorEq, ↓reduceIte, i9, c9, w2, b4, w6]
    cases b8 : (ltI r7 0 : Bool)
    · replace h := br_f b8 h
      obtain ⟨r11, q9, h⟩ := bnd_some h
      have w10 := e14 a0 r11 q9
      try simp -implicitDefEqProofs only [go_sem, Nat.reduceLT, Nat.reduceAdd, Nat.reduceSub, Nat.reduceMul, Nat.reduceEqDiff, Nat.reduceBEq, Nat.reduceLeDiff, Int.reduceToNat, Int.reduceLT, Int.reduceLE, Int.reduceEq, reduceCtorEq, ↓reduceIte] at w10
      obtain ⟨r14, q12, h⟩ := bnd_some h
      have w13 := e27 a1 r14 q12
      try simp -implicitDefEqProofs only [go_sem, Nat.reduceLT, Nat.reduceAdd, Nat.reduceSub, Nat.reduceMul, Nat.reduceEqDiff, Nat.reduceBEq, Nat.reduceLeDiff, Int.reduceToNat, Int.reduceLT, Int.reduceLE, Int.reduceEq, reduceCtorEq, ↓reduceIte] at w13
      obtain ⟨⟨r17, r18⟩, q15, h⟩ := bnd_some h
      replace h := sel2_some h
      have w16 := e37 r11 r14 a2 (r17, r18) q15
      try simp -implicitDefEqProofs only [go_sem, Nat.reduceLT, Nat.reduceAdd, Nat.reduceSub, Nat.reduceMul, Nat.reduceEqDiff, Nat.reduceBEq, Nat.reduceLeDiff, Int.reduceToNat, Int.reduceLT, Int.reduceLE, Int.reduceEq, reduceCtorEq, ↓reduceIte] at w16
      obtain ⟨⟨r25, r26⟩, q23, h⟩ := bnd_some h
      replace h := sel2_some h
      have w24 := e38 r11 r14 a2 (r25, r26) q23
      try simp -implicitDefEqProofs only [go_sem, Nat.reduceLT, Nat.reduceAdd, Nat.reduceSub, Nat.reduceMul, Nat.reduceEqDiff, Nat.reduceBEq, Nat.reduceLeDiff, Int.reduceToNat, Int.reduceLT, Int.reduceLE, Int.reduceEq, reduceCtorEq, ↓reduceIte] at w24
      obtain ⟨v33, q31, h⟩ := bnd_some h
      have w32 := e9_1 a1 a2 r18 r26 a0 r17 r11 r14 r25 v33 q31
      simp only [X9_1] at w32
      try simp -implicitDefEqProofs only [go_sem, Nat.reduceLT, Nat.reduceAdd, Nat.reduceSub, Nat.reduceMul, Nat.reduceEqDiff, Nat.reduceBEq, Nat.reduceLeDiff, Int.reduceToNat, Int.reduceLT, Int.reduceLE, Int.reduceEq, reduceCtorEq, ↓reduceIte] at w32
      try simp -implicitDefEqProofs only [go_sem, Nat.reduceLT, Nat.reduceAdd, Nat.reduceSub, Nat.reduceMul, Nat.reduceEqDiff, Nat.reduceBEq, Nat.reduceLeDiff, Int.reduceToNat, Int.reduceLT, Int.reduceLE, Int.reduceEq, reduceCtorEq, ↓reduceIte, i9, c9, w2, b4, w6, b8, w10, w13, w16, w24, w32]
      cases b34 : (v33 : Bool)
      · replace h := br_f b34 h
        obtain ⟨r39, q37, h⟩ := bnd_some h
        have w38 := e16 r11 r11 r39 q37
        try simp -implicitDefEqProofs only [go_sem, Nat.reduceLT, Nat.reduceAdd, Nat.reduceSub, Nat.reduceMul, Nat.reduceEqDiff, Nat.reduceBEq, Nat.reduceLeDiff, Int.reduceToNat, Int.reduceLT, Int.reduceLE, Int.reduceEq, reduceCtorEq, ↓reduceIte] at w38
        try simp -implicitDefEqProofs only [go_sem, Nat.reduceLT, Nat.reduceAdd, Nat.reduceSub, Nat.reduceMul, Nat.reduceEqDiff, Nat.reduceBEq, Nat.reduceLeDiff, Int.reduceToNat, Int.reduceLT, Int.reduceLE, Int.reduceEq, reduceCtorEq, ↓reduceIte, i9, c9, w2, b4, w6, b8, w10, w13, w16, w24, w32, b34, w38]
        cases b40 : (r39 : Bool)
        · replace h := br_f b40 h
          cases h
          simp -implicitDefEqProofs only [go_sem, Nat.reduceLT, Nat.reduceAdd, Nat.reduceSub, Nat.reduceMul, Nat.reduceEqDiff, Nat.reduceBEq, Nat.reduceLeDiff, Int.reduceToNat, Int.reduceLT, Int.reduceLE, Int.reduceEq, reduceCtorEq, ↓reduceIte, i9, c9, w2, b4, w6, b8, w10, w13, w16, w24, w32, b34, w38, b40]
        · replace h := br_t b40 h
          obtain ⟨r45, q43, h⟩ := bnd_some h
          have w44 := e30 r14 r14 r45 q43
          try simp -implicitDefEqProofs only [go_sem, Nat.reduceLT, Nat.reduceAdd, Nat.reduceSub, Nat.reduceMul, Nat.reduceEqDiff, Nat.reduceBEq, Nat.reduceLeDiff, Int.reduceToNat, Int.reduceLT, Int.reduceLE, Int.reduceEq, reduceCtorEq, ↓reduceIte] at w44
          try simp -implicitDefEqProofs only [go_sem, Nat.reduceLT, Nat.reduceAdd, Nat.reduceSub, Nat.reduceMul, Nat.reduceEqDiff, Nat.reduceBEq, Nat.reduceLeDiff, Int.reduceToNat, Int.reduceLT, Int.reduceLE, Int.reduceEq, reduceCtorEq, ↓reduceIte, i9, c9, w2, b4, w6, b8, w10, w13, w16, w24, w32, b34, w38, b40, w44]
          cases b46 : (r45 : Bool)
          · replace h := br_f b46 h
            cases h
            simp -implicitDefEqProofs only [go_sem, Nat.reduceLT, Nat.reduceAdd, Nat.reduceSub, Nat.reduceMul, Nat.reduceEqDiff, Nat.reduceBEq, Nat.reduceLeDiff, Int.reduceToNat, Int.reduceLT, Int.reduceLE, Int.reduceEq, reduceCtorEq, ↓reduceIte, i9, c9, w2, b4, w6, b8, w10, w13, w16, w24, w32, b34, w38, b40, w44, b46]
          · replace h := br_t b46 h
            obtain ⟨⟨r49, r50⟩, q47, h⟩ := bnd_some h
            replace h := sel2_some h
            have w48 := e23 r11 1 (r49, r50) q47
            try simp -implicitDefEqProofs only [go_sem, Nat.reduceLT, Nat.reduceAdd, Nat.reduceSub, Nat.reduceMul, Nat.reduceEqDiff, Nat.reduceBEq, Nat.reduceLeDiff, Int.reduceToNat, Int.reduceLT, Int.reduceLE, Int.reduceEq, reduceCtorEq, ↓reduceIte] at w48
            obtain ⟨g51, h⟩ := ck_some h
            try simp -implicitDefEqProofs only [go_sem, Nat.reduceLT, Nat.reduceAdd, Nat.reduceSub, Nat.reduceMul, Nat.reduceEqDiff, Nat.reduceBEq, Nat.reduceLeDiff, Int.reduceToNat, Int.reduceLT, Int.reduceLE, Int.reduceEq, reduceCtorEq, ↓reduceIte] at g51
            obtain ⟨⟨r54, r55⟩, q52, h⟩ := bnd_some h
            replace h := sel2_some h
            have w53 := e34 r14 r49 (r54, r55) q52
            try simp -implicitDefEqProofs only [go_sem, Nat.reduceLT, Nat.reduceAdd, Nat.reduceSub, Nat.reduceMul, Nat.reduceEqDiff, Nat.reduceBEq, Nat.reduceLeDiff, Int.reduceToNat, Int.reduceLT, Int.reduceLE, Int.reduceEq, reduceCtorEq, ↓reduceIte, g51] at w53
            obtain ⟨g56, h⟩ := ck_some h
            try simp -implicitDefEqProofs only [go_sem, Nat.reduceLT, Nat.reduceAdd, Nat.reduceSub, Nat.reduceMul, Nat.reduceEqDiff, Nat.reduceBEq, Nat.reduceLeDiff, Int.reduceToNat, Int.reduceLT, Int.reduceLE, Int.reduceEq, reduceCtorEq, ↓reduceIte] at g56
            obtain ⟨v64, q62, h⟩ := bnd_some h
            have w63 := e9_2 a1 a2 r18 r26 r54 a0 r17 r25 v64 q62
            simp only [X9_2] at w63
            try simp -implicitDefEqProofs only [go_sem, Nat.reduceLT, Nat.reduceAdd, Nat.reduceSub, Nat.reduceMul, Nat.reduceEqDiff, Nat.reduceBEq, Nat.reduceLeDiff, Int.reduceToNat, Int.reduceLT, Int.reduceLE, Int.reduceEq, reduceCtorEq, ↓reduceIte, g51, g56] at w63
            try simp -implicitDefEqProofs only [go_sem, Nat.reduceLT, Nat.reduceAdd, Nat.reduceSub, Nat.reduceMul, Nat.reduceEqDiff, Nat.reduceBEq, Nat.reduceLeDiff, Int.reduceToNat, Int.reduceLT, Int.reduceLE, Int.reduceEq, reduceCtorEq, ↓reduceIte, i9, c9, w2, b4, w6, b8, w10, w13, w16, w24, w32, b34, w38, b40, w44, b46, w48, g51, take_of_len_map g51, w53, g56, take_of_len_map g56, w63]
            cases b65 : (v64 : Bool)
            · replace h := br_f b65 h
              obtain ⟨⟨r68, r69⟩, q66, h⟩ := bnd_some h
              replace h := sel2_some h
              have w67 := e35 r25 1 (r68, r69) q66
              try simp -implicitDefEqProofs only [go_sem, Nat.reduceLT, Nat.reduceAdd, Nat.reduceSub, Nat.reduceMul, Nat.reduceEqDiff, Nat.reduceBEq, Nat.reduceLeDiff, Int.reduceToNat, Int.reduceLT, Int.reduceLE, Int.reduceEq, reduceCtorEq, ↓reduceIte, g51, g56] at w67
              obtain ⟨g70, h⟩ := ck_some h
              try simp -implicitDefEqProofs only [go_sem, Nat.reduceLT, Nat.reduceAdd, Nat.reduceSub, Nat.reduceMul, Nat.reduceEqDiff, Nat.reduceBEq, Nat.reduceLeDiff, Int.reduceToNat, Int.reduceLT, Int.reduceLE, Int.reduceEq, reduceCtorEq, ↓reduceIte] at g70
              obtain ⟨r73, q71, h⟩ := bnd_some h
              have w72 := e36 r69 1 r73 q71
              try simp -implicitDefEqProofs only [go_sem, Nat.reduceLT, Nat.reduceAdd, Nat.reduceSub, Nat.reduceMul, Nat.reduceEqDiff, Nat.reduceBEq, Nat.reduceLeDiff, Int.reduceToNat, Int.reduceLT, Int.reduceLE, Int.reduceEq, reduceCtorEq, ↓reduceIte, g51, g56, g70] at w72
              try simp -implicitDefEqProofs only [go_sem, Nat.reduceLT, Nat.reduceAdd, Nat.reduceSub, Nat.reduceMul, Nat.reduceEqDiff, Nat.reduceBEq, Nat.reduceLeDiff, Int.reduceToNat, Int.reduceLT, Int.reduceLE, Int.reduceEq, reduceCtorEq, ↓reduceIte, i9, c9, w2, b4, w6, b8, w10, w13, w16, w24, w32, b34, w38, b40, w44, b46, w48, g51, take_of_len_map g51, w53, g56, take_of_len_map g56, w63, b65, w67, g70, take_of_len_map g70, w72]
              cases b74 : (ltI r73 0 : Bool)
              · replace h := br_f b74 h
                try simp -implicitDefEqProofs only [go_sem, Nat.reduceLT, Nat.reduceAdd, Nat.reduceSub, Nat.reduceMul, Nat.reduceEqDiff, Nat.reduceBEq, Nat.reduceLeDiff, Int.reduceToNat, Int.reduceLT, Int.reduceLE, Int.reduceEq, reduceCtorEq, ↓reduceIte, i9, c9, w2, b4, w6, b8, w10, w13, w16, w24, w32, b34, w38, b40, w44, b46, w48, g51, take_of_len_map g51, w53, g56, take_of_len_map g56, w63, b65, w67, g70, take_of_len_map g70, w72, b74]
                cases b75 : (eqI r73 r68 : Bool)
                · replace h := br_f b75 h
                  cases h
                  simp -implicitDefEqProofs only [go_sem, Nat.reduceLT, Nat.reduceAdd, Nat.reduceSub, Nat.reduceMul, Nat.reduceEqDiff, Nat.reduceBEq, Nat.reduceLeDiff, Int.reduceToNat, Int.reduceLT, Int.reduceLE, Int.reduceEq, reduceCtorEq, ↓reduceIte, i9, c9, w2, b4, w6, b8, w10, w13, w16, w24, w32, b34, w38, b40, w44, b46, w48, g51, take_of_len_map g51, w53, g56, take_of_len_map g56, w63, b65, w67, g70, take_of_len_map g70, w72, b74, b75]
                · replace h := br_t b75 h
                  obtain ⟨v88, q86, h⟩ := bnd_some h
                  have w87 := e9_3 r18 r68 r26 r17 r69 r25 v88 q86
                  simp only [X9_3] at w87
                  try simp -implicitDefEqProofs only [go_sem, Nat.reduceLT, Nat.reduceAdd, Nat.reduceSub, Nat.reduceMul, Nat.reduceEqDiff, Nat.reduceBEq, Nat.reduceLeDiff, Int.reduceToNat, Int.reduceLT, Int.reduceLE, Int.reduceEq, reduceCtorEq, ↓reduceIte, g51, g56, g70] at w87
                  try simp -implicitDefEqProofs only [go_sem, Nat.reduceLT, Nat.reduceAdd, Nat.reduceSub, Nat.reduceMul, Nat.reduceEqDiff, Nat.reduceBEq, Nat.reduceLeDiff, Int.reduceToNat, Int.reduceLT, Int.reduceLE, Int.reduceEq, reduceCtorEq, ↓reduceIte, i9, c9, w2, b4, w6, b8, w10, w13, w16, w24, w32, b34, w38, b40, w44, b46, w48, g51, take_of_len_map g51, w53, g56, take_of_len_map g56, w63, b65, w67, g70, take_of_len_map g70, w72, b74, b75, w87]
                  cases b89 : (v88 : Bool)
                  · replace h := br_f b89 h
                    cases h
                    simp -implicitDefEqProofs only [go_sem, Nat.reduceLT, Nat.reduceAdd, Nat.reduceSub, Nat.reduceMul, Nat.reduceEqDiff, Nat.reduceBEq, Nat.reduceLeDiff, Int.reduceToNat, Int.reduceLT, Int.reduceLE, Int.reduceEq, reduceCtorEq, ↓reduceIte, i9, c9, w2, b4, w6, b8, w10, w13, w16, w24, w32, b34, w38, b40, w44, b46, w48, g51, take_of_len_map g51, w53, g56, take_of_len_map g56, w63, b65, w67, g70, take_of_len_map g70, w72, b74, b75, w87, b89]
                  · replace h := br_t b89 h
                    cases h
                    simp -implicitDefEqProofs only [go_sem, Nat.reduceLT, Nat.reduceAdd, Nat.reduceSub, Nat.reduceMul, Nat.reduceEqDiff, Nat.reduceBEq, Nat.reduceLeDiff, Int.reduceToNat, Int.reduceLT, Int.reduceLE, Int.reduceEq, reduceCtorEq, ↓reduceIte, i9, c9, w2, b4, w6, b8, w10, w13, w16, w24, w32, b34, w38, b40, w44, b46, w48, g51, take_of_len_map g51, w53, g56, take_of_len_map g56, w63, b65, w67, g70, take_of_len_map g70, w72, b74, b75, w87, b89]
              · replace h := br_t b74 h
                cases h
                simp -implicitDefEqProofs only [go_sem, Nat.reduceLT, Nat.reduceAdd, Nat.reduceSub, Nat.reduceMul, Nat.reduceEqDiff, Nat.reduceBEq, Nat.reduceLeDiff, Int.reduceToNat, Int.reduceLT, Int.reduceLE, Int.reduceEq, reduceCtorEq, ↓reduceIte, i9, c9, w2, b4, w6, b8, w10, w13, w16, w24, w32, b34, w38, b40, w44, b46, w48, g51, take_of_len_map g51, w53, g56, take_of_len_map g56, w63, b65, w67, g70, take_of_len_map g70, w72, b74]
            · replace h := br_t b65 h
              cases h
              simp -implicitDefEqProofs only [go_sem, Nat.reduceLT, Nat.reduceAdd, Nat.reduceSub, Nat.reduceMul, Nat.reduceEqDiff, Nat.reduceBEq, Nat.reduceLeDiff, Int.reduceToNat, Int.reduceLT, Int.reduceLE, Int.reduceEq, reduceCtorEq, ↓reduceIte, i9, c9, w2, b4, w6, b8, w10, w13, w16, w24, w32, b34, w38, b40, w44, b46, w48, g51, take_of_len_map g51, w53, g56, take_of_len_map g56, w63, b65]
      · replace h := br_t b34 h
        cases h
        simp -implicitDefEqProofs only [go_sem, Nat.reduceLT, Nat.reduceAdd, Nat.reduceSub, Nat.reduceMul, Nat.reduceEqDiff, Nat.reduceBEq, Nat.reduceLeDiff, Int.reduceToNat, Int.reduceLT, Int.reduceLE, Int.reduceEq, reduceCtorEq, ↓reduceIte, i9, c9, w2, b4, w6, b8, w10, w13, w16, w24, w32, b34]
    · replace h := br_t b8 h
      cases h
      simp -implicitDefEqProofs only [go_sem, Nat.reduceLT, Nat.reduceAdd, Nat.reduceSub, Nat.reduceMul, Nat.reduceEqDiff, Nat.reduceBEq, Nat.reduceLeDiff, Int.reduceToNat, Int.reduceLT, Int.reduceLE, Int.reduceEq, reduceCtorEq, ↓reduceIte, i9, c9, w2, b4, w6, b8]
  · replace h := br_t b4 h
    cases h
    simp -implicitDefEqProofs only [go_sem, Nat.reduceLT, Nat.reduceAdd, Nat.reduceSub, Nat.reduceMul, Nat.reduceEqDiff, Nat.reduceBEq, Nat.reduceLeDiff, Int.reduceToNat, Int.reduceLT, Int.reduceLE, Int.reduceEq, reduceCtorEq, ↓reduceIte, i9, c9, w2, b4]
end Go.Pi.Ytbohlpligkfkiaa.BestTo
