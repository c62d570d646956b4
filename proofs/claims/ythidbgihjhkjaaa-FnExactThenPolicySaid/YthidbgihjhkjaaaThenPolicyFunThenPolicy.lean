/- What functions of the program answer, and that the law answers true at every input; no condition -/
import Derived.Test.YthidbgihjhkjaaaThenPolicyFuaThenPolicy
set_option linter.all false
/- Functions of the program: that the code answers as the plain functions do, the rest. -/
namespace Go.Pi.Ythidbgihjhkjaaa.ThenPolicy
open Go Go.Proofs Go.Pi
set_option maxRecDepth 100000
set_option linter.all false
-- f125 impl.GoodRegex$1
theorem call125 (args : List AV) (S : St) : evCall T (evFL T) 125 args S = lendC (evFL T 125) S (lendAll S [[0, 0]] args) := evCall0 fn125 rfl rfl rfl args S
theorem callz125 (args : List AV) (S : St) : evCallFz T (evFL T) 125 args S = lendZ (evFL T 125) S [[0]] (lendAll S [[0, 0]] args) := evCallFz0 fn125 rfl rfl rfl args S
theorem calls125 (args : List AV) (S : St) : evCall (T.at true) (evFL T) 125 args S = lendC (evFL T 125) S (lendAll S [[0, 0]] args) := evCall0 fns125 rfl rfl rfl args S
theorem callsz125 (args : List AV) (S : St) : evCallFz (T.at true) (evFL T) 125 args S = lendZ (evFL T 125) S [[0]] (lendAll S [[0, 0]] args) := evCallFz0 fns125 rfl rfl rfl args S
attribute [go_sem] call125 callz125 calls125 callsz125
noncomputable def X125_1 (a0 : ReCell) (o : Bool) : Ex × Fr × St :=
  (.normal, frOf 22 (upd anyF 2 (.bool o)), [])
theorem e125_1 (a0 : ReCell) (o : Bool) (h : m125_1 a0 = some o) : evCL T 0 k125_1 (frOf 22 (upd anyF 1 (.ptr 0 0 0))) [some ⟨.box, 2, [[.int .i64 a0.kind, .int .i64 a0.n]]⟩] = some (X125_1 a0 o) := by
  unfold m125_1 at h
  try simp -implicitDefEqProofs only [go_sem, Nat.reduceLT, Nat.reduceAdd, Nat.reduceMul, Nat.reduceEqDiff, Nat.reduceLeDiff, reduceCtorEq, ↓reduceIte, X125_1, k125_1]
  cases b1 : (eqI a0.kind 3 : Bool)
  · replace h := br_f b1 h
    cases h
    simp -implicitDefEqProofs only [go_sem, Nat.reduceLT, Nat.reduceAdd, Nat.reduceMul, Nat.reduceEqDiff, Nat.reduceLeDiff, reduceCtorEq, ↓reduceIte, X125_1, k125_1, b1]
  · replace h := br_t b1 h
    obtain ⟨r4, q2, h⟩ := bnd_some h
    have w3 := e91 a0.n r4 q2
    try simp -implicitDefEqProofs only [go_sem] at w3
    try simp -implicitDefEqProofs only [go_sem, Nat.reduceLT, Nat.reduceAdd, Nat.reduceMul, Nat.reduceEqDiff, Nat.reduceLeDiff, reduceCtorEq, ↓reduceIte, X125_1, k125_1, b1, w3]
    cases b5 : (r4 : Bool)
    · replace h := br_f b5 h
      cases h
      simp -implicitDefEqProofs only [go_sem, Nat.reduceLT, Nat.reduceAdd, Nat.reduceMul, Nat.reduceEqDiff, Nat.reduceLeDiff, reduceCtorEq, ↓reduceIte, X125_1, k125_1, b1, w3, b5]
    · replace h := br_t b5 h
      cases h
      simp -implicitDefEqProofs only [go_sem, Nat.reduceLT, Nat.reduceAdd, Nat.reduceMul, Nat.reduceEqDiff, Nat.reduceLeDiff, reduceCtorEq, ↓reduceIte, X125_1, k125_1, b1, w3, b5]
theorem e125 (a0 : ReCell) (r : Bool) (h : m125 a0 = some r) : evFL T 125 [.agg [.int .i64 a0.kind, .int .i64 a0.n]] [] = some (.bool r, []) := by
  unfold m125 at h
  rw [evFL_at fn125 (Nat.le_of_ble_eq_true rfl) rfl (.inr rfl) ⟨rfl, rfl⟩]
  obtain ⟨v8, q6, h⟩ := bnd_some h
  have w7 := e125_1 a0 v8 q6
  simp only [X125_1] at w7
  try simp -implicitDefEqProofs only [go_sem] at w7
  cases h
  simp -implicitDefEqProofs only [go_sem, Nat.reduceLT, Nat.reduceAdd, Nat.reduceMul, Nat.reduceEqDiff, Nat.reduceLeDiff, reduceCtorEq, ↓reduceIte, i125, c125, w7]
-- f84 impl.GoodRegex
theorem call84 (args : List AV) (S : St) : evCall T (evFL T) 84 args S = lendC (evFL T 84) S (lendAll S [[2]] args) := evCall0 fn84 rfl rfl rfl args S
theorem callz84 (args : List AV) (S : St) : evCallFz T (evFL T) 84 args S = lendZ (evFL T 84) S [[0]] (lendAll S [[2]] args) := evCallFz0 fn84 rfl rfl rfl args S
theorem calls84 (args : List AV) (S : St) : evCall (T.at true) (evFL T) 84 args S = lendC (evFL T 84) S (lendAll S [[2]] args) := evCall0 fns84 rfl rfl rfl args S
theorem callsz84 (args : List AV) (S : St) : evCallFz (T.at true) (evFL T) 84 args S = lendZ (evFL T 84) S [[0]] (lendAll S [[2]] args) := evCallFz0 fns84 rfl rfl rfl args S
attribute [go_sem] call84 callz84 calls84 callsz84
noncomputable def X84_1 (a0 : (List ReCell)) (o : Bool) : Ex × Fr × St :=
  (.normal, frOf 17 (upd (upd anyF 0 (.ts .imm 2 (a0.map encReCell))) 13 (.bool o)), [])
theorem e84_1 (a0 : (List ReCell)) (o : Bool) (h : m84_1 a0 = some o) : evCL T 0 k84_1 (frOf 17 (upd anyF 0 (.ts .imm 2 (a0.map encReCell)))) [] = some (X84_1 a0 o) := by
  unfold m84_1 at h
  obtain ⟨r3, q1, h⟩ := bnd_some h
  have w2 := e75 (↑a0.length : Int) 1 30 r3 q1
  try simp -implicitDefEqProofs only [go_sem] at w2
  try simp -implicitDefEqProofs only [go_sem, Nat.reduceLT, Nat.reduceAdd, Nat.reduceMul, Nat.reduceEqDiff, Nat.reduceLeDiff, reduceCtorEq, ↓reduceIte, X84_1, k84_1, w2]
  cases b4 : (r3 : Bool)
  · replace h := br_f b4 h
    cases h
    simp -implicitDefEqProofs only [go_sem, Nat.reduceLT, Nat.reduceAdd, Nat.reduceMul, Nat.reduceEqDiff, Nat.reduceLeDiff, reduceCtorEq, ↓reduceIte, X84_1, k84_1, w2, b4]
  · replace h := br_t b4 h
    obtain ⟨r7, q5, h⟩ := bnd_some h
    have w6 := e123 a0 0 r7 q5
    try simp -implicitDefEqProofs only [go_sem] at w6
    cases h
    simp -implicitDefEqProofs only [go_sem, Nat.reduceLT, Nat.reduceAdd, Nat.reduceMul, Nat.reduceEqDiff, Nat.reduceLeDiff, reduceCtorEq, ↓reduceIte, X84_1, k84_1, w2, b4, w6]
theorem e84 (a0 : (List ReCell)) (r : Bool) (h : m84 a0 = some r) : evFL T 84 [.ts .imm 2 (a0.map encReCell)] [] = some (.bool r, []) := by
  unfold m84 at h
  rw [evFL_at fn84 (Nat.le_of_ble_eq_true rfl) rfl (.inr rfl) ⟨rfl, rfl⟩]
  obtain ⟨v10, q8, h⟩ := bnd_some h
  have w9 := e84_1 a0 v10 q8
  simp only [X84_1] at w9
  try simp -implicitDefEqProofs only [go_sem] at w9
  try simp -implicitDefEqProofs only [go_sem, Nat.reduceLT, Nat.reduceAdd, Nat.reduceMul, Nat.reduceEqDiff, Nat.reduceLeDiff, reduceCtorEq, ↓reduceIte, i84, c84, w9]
  cases b11 : (v10 : Bool)
  · replace h := br_f b11 h
    obtain ⟨r14, q12, h⟩ := bnd_some h
    have w13 := e124 a0 (fun y0 => m125 y0) 125 [] ⟨⟨fun S => by simp -implicitDefEqProofs only [go_sem, Nat.reduceLT, Nat.reduceAdd, Nat.reduceMul, Nat.reduceEqDiff, Nat.reduceLeDiff, reduceCtorEq, ↓reduceIte], fun _ _ _ _ _ _ => by simp -implicitDefEqProofs only [go_sem, Nat.reduceLT, Nat.reduceAdd, Nat.reduceMul, Nat.reduceEqDiff, Nat.reduceLeDiff, reduceCtorEq, ↓reduceIte]⟩, fun y0 r h => ⟨fun S => by simp -implicitDefEqProofs only [go_sem, Nat.reduceLT, Nat.reduceAdd, Nat.reduceMul, Nat.reduceEqDiff, Nat.reduceLeDiff, reduceCtorEq, ↓reduceIte, e125 y0 r h], fun S => by simp -implicitDefEqProofs only [go_sem, Nat.reduceLT, Nat.reduceAdd, Nat.reduceMul, Nat.reduceEqDiff, Nat.reduceLeDiff, reduceCtorEq, ↓reduceIte, e125 y0 r h]⟩⟩ r14 q12
    try simp -implicitDefEqProofs only [go_sem] at w13
    cases h
    simp -implicitDefEqProofs only [go_sem, Nat.reduceLT, Nat.reduceAdd, Nat.reduceMul, Nat.reduceEqDiff, Nat.reduceLeDiff, reduceCtorEq, ↓reduceIte, i84, c84, w9, b11, w13]
  · replace h := br_t b11 h
    cases h
    simp -implicitDefEqProofs only [go_sem, Nat.reduceLT, Nat.reduceAdd, Nat.reduceMul, Nat.reduceEqDiff, Nat.reduceLeDiff, reduceCtorEq, ↓reduceIte, i84, c84, w9, b11]
-- f79 impl.isValue
theorem call79 (args : List AV) (S : St) : evCall T (evFL T) 79 args S = lendC (evFL T 79) S (lendAll S [[0]] args) := evCall0 fn79 rfl rfl rfl args S
theorem callz79 (args : List AV) (S : St) : evCallFz T (evFL T) 79 args S = lendZ (evFL T 79) S [[0]] (lendAll S [[0]] args) := evCallFz0 fn79 rfl rfl rfl args S
theorem calls79 (args : List AV) (S : St) : evCall (T.at true) (evFL T) 79 args S = lendC (evFL T 79) S (lendAll S [[0]] args) := evCall0 fns79 rfl rfl rfl args S
theorem callsz79 (args : List AV) (S : St) : evCallFz (T.at true) (evFL T) 79 args S = lendZ (evFL T 79) S [[0]] (lendAll S [[0]] args) := evCallFz0 fns79 rfl rfl rfl args S
attribute [go_sem] call79 callz79 calls79 callsz79
theorem e79 (a0 : Int) (r : Bool) (h : m79 a0 = some r) : evFL T 79 [.int .i64 a0] [] = some (.bool r, []) := by
  unfold m79 at h
  rw [evFL_at fn79 (Nat.le_of_ble_eq_true rfl) rfl (.inr rfl) ⟨rfl, rfl⟩]
  obtain ⟨r3, q1, h⟩ := bnd_some h
  have w2 := e75 a0 0 1000000 r3 q1
  try simp -implicitDefEqProofs only [go_sem] at w2
  cases h
  simp -implicitDefEqProofs only [go_sem, Nat.reduceLT, Nat.reduceAdd, Nat.reduceMul, Nat.reduceEqDiff, Nat.reduceLeDiff, reduceCtorEq, ↓reduceIte, i79, c79, w2]
-- f126 slices.IndexFunc[[]impl.Range,impl.Range]
theorem call126 (args : List AV) (S : St) : evCall T (evFL T) 126 args S = lendC (evFL T 126) S (lendAll S [[4], [0]] args) := evCall0 fn126 rfl rfl rfl args S
theorem callz126 (args : List AV) (S : St) : evCallFz T (evFL T) 126 args S = lendZ (evFL T 126) S [[0]] (lendAll S [[4], [0]] args) := evCallFz0 fn126 rfl rfl rfl args S
theorem calls126 (args : List AV) (S : St) : evCall (T.at true) (evFL T) 126 args S = lendC (evFL T 126) S (lendAll S [[4], [0]] args) := evCall0 fns126 rfl rfl rfl args S
theorem callsz126 (args : List AV) (S : St) : evCallFz (T.at true) (evFL T) 126 args S = lendZ (evFL T 126) S [[0]] (lendAll S [[4], [0]] args) := evCallFz0 fns126 rfl rfl rfl args S
attribute [go_sem] call126 callz126 calls126 callsz126
noncomputable def X126_1 (a1_f : Nat) (a1_c : List AV) (a0 : (List Range)) (p1 : Int) (a1 : (Range → Option Bool)) (o : (Unit ⊕ Int)) : Ex × Fr × St :=
  match o with
  | .inl o => (.exit 0, frOf 19 (anyF), [])
  | .inr o => (.ret, frOf 19 (upd anyF 4 (.int .i64 o)), [])
noncomputable def E126_1 (a1_f : Nat) (a1_c : List AV) (a0 : (List Range)) (p1 : Int) (a1 : (Range → Option Bool)) (s : Int) : Fr × St := (frOf 19 (upd (upd (upd (upd anyF 0 (.ts .imm 4 (a0.map encRange))) 1 (.fn a1_f a1_c)) 7 (.int .i64 p1)) 8 (.int .i64 s)), [])
theorem b126_1 (a0 : (List Range)) (p1 : Int) (a1 : (Range → Option Bool)) (a1_f : Nat) (a1_c : List AV) (a1_h : ((∀ S, mapO (lendPtr S) a1_c = some a1_c) ∧ (∀ n0 src R tm t c, tdL n0 src R tm t c a1_c = some a1_c)) ∧ ∀ y0 r, a1 y0 = some r → (∀ S, evCall T (evFL T) a1_f ([.agg [.int .i64 y0.prefix_.addr, .int .i64 y0.prefix_.len, .int .i64 y0.lo, .int .i64 y0.hi]] ++ a1_c) S = some (.bool r, S)) ∧ (∀ S, evCallFz T (evFL T) a1_f ([.agg [.int .i64 y0.prefix_.addr, .int .i64 y0.prefix_.len, .int .i64 y0.lo, .int .i64 y0.hi]] ++ a1_c) S = some (.bool r, S))) (s : Int) (o : Ctl Int (Unit ⊕ Int)) (h : m126_1b a0 p1 a1 s = some o) : evCL T 0 k126_1b (E126_1 a1_f a1_c a0 p1 a1 s).1 (E126_1 a1_f a1_c a0 p1 a1 s).2 = some (ctlX (E126_1 a1_f a1_c a0 p1 a1) (X126_1 a1_f a1_c a0 p1 a1) o) := by
  unfold m126_1b at h
  revert h
  generalize s = s12
  intro h
  try simp -implicitDefEqProofs only [go_sem, Nat.reduceLT, Nat.reduceAdd, Nat.reduceMul, Nat.reduceEqDiff, Nat.reduceLeDiff, reduceCtorEq, ↓reduceIte, E126_1, X126_1, k126_1b, a1_h.1]
  cases b13 : (ltI s12 p1 : Bool)
  · replace h := br_f b13 h
    cases h
    simp -implicitDefEqProofs only [go_sem, Nat.reduceLT, Nat.reduceAdd, Nat.reduceMul, Nat.reduceEqDiff, Nat.reduceLeDiff, reduceCtorEq, ↓reduceIte, E126_1, X126_1, k126_1b, a1_h.1, b13]
  · replace h := br_t b13 h
    obtain ⟨x14, q15, h⟩ := bnd_some h
    obtain ⟨g16, g17, g18⟩ := idx_row encRange q15
    try simp -implicitDefEqProofs only [go_sem] at g17
    try simp -implicitDefEqProofs only [go_sem] at g18
    obtain ⟨r19, q20, h⟩ := bnd_some h
    have w21 := a1_h.2 x14 r19 q20
    try simp -implicitDefEqProofs only [go_sem] at w21
    try simp -implicitDefEqProofs only [go_sem, Nat.reduceLT, Nat.reduceAdd, Nat.reduceMul, Nat.reduceEqDiff, Nat.reduceLeDiff, reduceCtorEq, ↓reduceIte, E126_1, X126_1, k126_1b, a1_h.1, b13, g16, g17, g18, w21.1, w21.2]
    cases b22 : (r19 : Bool)
    · replace h := br_f b22 h
      cases h
      simp -implicitDefEqProofs only [go_sem, Nat.reduceLT, Nat.reduceAdd, Nat.reduceMul, Nat.reduceEqDiff, Nat.reduceLeDiff, reduceCtorEq, ↓reduceIte, E126_1, X126_1, k126_1b, a1_h.1, b13, g16, g17, g18, w21.1, w21.2, b22]
    · replace h := br_t b22 h
      cases h
      simp -implicitDefEqProofs only [go_sem, Nat.reduceLT, Nat.reduceAdd, Nat.reduceMul, Nat.reduceEqDiff, Nat.reduceLeDiff, reduceCtorEq, ↓reduceIte, E126_1, X126_1, k126_1b, a1_h.1, b13, g16, g17, g18, w21.1, w21.2, b22]
theorem e126_1 (a0 : (List Range)) (p1 : Int) (a1 : (Range → Option Bool)) (a1_f : Nat) (a1_c : List AV) (a1_h : ((∀ S, mapO (lendPtr S) a1_c = some a1_c) ∧ (∀ n0 src R tm t c, tdL n0 src R tm t c a1_c = some a1_c)) ∧ ∀ y0 r, a1 y0 = some r → (∀ S, evCall T (evFL T) a1_f ([.agg [.int .i64 y0.prefix_.addr, .int .i64 y0.prefix_.len, .int .i64 y0.lo, .int .i64 y0.hi]] ++ a1_c) S = some (.bool r, S)) ∧ (∀ S, evCallFz T (evFL T) a1_f ([.agg [.int .i64 y0.prefix_.addr, .int .i64 y0.prefix_.len, .int .i64 y0.lo, .int .i64 y0.hi]] ++ a1_c) S = some (.bool r, S))) (s : Int) (o : (Unit ⊕ Int)) (h : loopP (m126_1b a0 p1 a1) s = some o) : evCL T 0 (.loop k126_1b) (E126_1 a1_f a1_c a0 p1 a1 s).1 (E126_1 a1_f a1_c a0 p1 a1 s).2 = some (X126_1 a1_f a1_c a0 p1 a1 o) :=
  loop_walk (E := E126_1 a1_f a1_c a0 p1 a1) (X := X126_1 a1_f a1_c a0 p1 a1) (by intro b; rcases b with b | b <;> (simp only [X126_1]; nofun)) (b126_1 a0 p1 a1 a1_f a1_c a1_h) s o h
theorem e126 (a0 : (List Range)) (a1 : (Range → Option Bool)) (a1_f : Nat) (a1_c : List AV) (a1_h : ((∀ S, mapO (lendPtr S) a1_c = some a1_c) ∧ (∀ n0 src R tm t c, tdL n0 src R tm t c a1_c = some a1_c)) ∧ ∀ y0 r, a1 y0 = some r → (∀ S, evCall T (evFL T) a1_f ([.agg [.int .i64 y0.prefix_.addr, .int .i64 y0.prefix_.len, .int .i64 y0.lo, .int .i64 y0.hi]] ++ a1_c) S = some (.bool r, S)) ∧ (∀ S, evCallFz T (evFL T) a1_f ([.agg [.int .i64 y0.prefix_.addr, .int .i64 y0.prefix_.len, .int .i64 y0.lo, .int .i64 y0.hi]] ++ a1_c) S = some (.bool r, S))) (r : Int) (h : m126 a0 a1 = some r) : evFL T 126 [.ts .imm 4 (a0.map encRange), .fn a1_f a1_c] [] = some (.int .i64 r, []) := by
  unfold m126 at h
  rw [evFL_at fn126 (Nat.le_of_ble_eq_true rfl) rfl (.inr rfl) ⟨rfl, rfl⟩]
  try simp -implicitDefEqProofs only [go_sem, Nat.reduceLT, Nat.reduceAdd, Nat.reduceMul, Nat.reduceEqDiff, Nat.reduceLeDiff, reduceCtorEq, ↓reduceIte, i126, c126, a1_h.1]
  obtain ⟨o, q23, h⟩ := bnd_some h
  rcases o with ⟨⟩ | v25
  · replace h := selS_l h
    have w24 := e126_1 a0 (↑a0.length : Int) a1 a1_f a1_c a1_h 0 (.inl ()) q23
    simp only [E126_1, X126_1] at w24
    try simp -implicitDefEqProofs only [go_sem] at w24
    cases h
    simp -implicitDefEqProofs only [go_sem, Nat.reduceLT, Nat.reduceAdd, Nat.reduceMul, Nat.reduceEqDiff, Nat.reduceLeDiff, reduceCtorEq, ↓reduceIte, i126, c126, a1_h.1, w24]
  · replace h := selS_r h
    have w24 := e126_1 a0 (↑a0.length : Int) a1 a1_f a1_c a1_h 0 (.inr v25) q23
    simp only [E126_1, X126_1] at w24
    try simp -implicitDefEqProofs only [go_sem] at w24
    cases h
    simp -implicitDefEqProofs only [go_sem, Nat.reduceLT, Nat.reduceAdd, Nat.reduceMul, Nat.reduceEqDiff, Nat.reduceLeDiff, reduceCtorEq, ↓reduceIte, i126, c126, a1_h.1, w24]
-- f85 slices.ContainsFunc[[]impl.Range,impl.Range]
theorem call85 (args : List AV) (S : St) : evCall T (evFL T) 85 args S = lendC (evFL T 85) S (lendAll S [[4], [0]] args) := evCall0 fn85 rfl rfl rfl args S
theorem callz85 (args : List AV) (S : St) : evCallFz T (evFL T) 85 args S = lendZ (evFL T 85) S [[0]] (lendAll S [[4], [0]] args) := evCallFz0 fn85 rfl rfl rfl args S
theorem calls85 (args : List AV) (S : St) : evCall (T.at true) (evFL T) 85 args S = lendC (evFL T 85) S (lendAll S [[4], [0]] args) := evCall0 fns85 rfl rfl rfl args S
theorem callsz85 (args : List AV) (S : St) : evCallFz (T.at true) (evFL T) 85 args S = lendZ (evFL T 85) S [[0]] (lendAll S [[4], [0]] args) := evCallFz0 fns85 rfl rfl rfl args S
attribute [go_sem] call85 callz85 calls85 callsz85
theorem e85 (a0 : (List Range)) (a1 : (Range → Option Bool)) (a1_f : Nat) (a1_c : List AV) (a1_h : ((∀ S, mapO (lendPtr S) a1_c = some a1_c) ∧ (∀ n0 src R tm t c, tdL n0 src R tm t c a1_c = some a1_c)) ∧ ∀ y0 r, a1 y0 = some r → (∀ S, evCall T (evFL T) a1_f ([.agg [.int .i64 y0.prefix_.addr, .int .i64 y0.prefix_.len, .int .i64 y0.lo, .int .i64 y0.hi]] ++ a1_c) S = some (.bool r, S)) ∧ (∀ S, evCallFz T (evFL T) a1_f ([.agg [.int .i64 y0.prefix_.addr, .int .i64 y0.prefix_.len, .int .i64 y0.lo, .int .i64 y0.hi]] ++ a1_c) S = some (.bool r, S))) (r : Bool) (h : m85 a0 a1 = some r) : evFL T 85 [.ts .imm 4 (a0.map encRange), .fn a1_f a1_c] [] = some (.bool r, []) := by
  unfold m85 at h
  rw [evFL_at fn85 (Nat.le_of_ble_eq_true rfl) rfl (.inr rfl) ⟨rfl, rfl⟩]
  obtain ⟨r3, q1, h⟩ := bnd_some h
  have w2 := e126 a0 a1 a1_f a1_c a1_h r3 q1
  try simp -implicitDefEqProofs only [go_sem] at w2
  cases h
  simp -implicitDefEqProofs only [go_sem, Nat.reduceLT, Nat.reduceAdd, Nat.reduceMul, Nat.reduceEqDiff, Nat.reduceLeDiff, reduceCtorEq, ↓reduceIte, i85, c85, a1_h.1, w2]
-- f76 impl.isAddr
theorem call76 (args : List AV) (S : St) : evCall T (evFL T) 76 args S = lendC (evFL T 76) S (lendAll S [[0]] args) := evCall0 fn76 rfl rfl rfl args S
theorem callz76 (args : List AV) (S : St) : evCallFz T (evFL T) 76 args S = lendZ (evFL T 76) S [[0]] (lendAll S [[0]] args) := evCallFz0 fn76 rfl rfl rfl args S
theorem calls76 (args : List AV) (S : St) : evCall (T.at true) (evFL T) 76 args S = lendC (evFL T 76) S (lendAll S [[0]] args) := evCall0 fns76 rfl rfl rfl args S
theorem callsz76 (args : List AV) (S : St) : evCallFz (T.at true) (evFL T) 76 args S = lendZ (evFL T 76) S [[0]] (lendAll S [[0]] args) := evCallFz0 fns76 rfl rfl rfl args S
attribute [go_sem] call76 callz76 calls76 callsz76
theorem e76 (a0 : Int) (r : Bool) (h : m76 a0 = some r) : evFL T 76 [.int .i64 a0] [] = some (.bool r, []) := by
  unfold m76 at h
  rw [evFL_at fn76 (Nat.le_of_ble_eq_true rfl) rfl (.inr rfl) ⟨rfl, rfl⟩]
  obtain ⟨r3, q1, h⟩ := bnd_some h
  have w2 := e75 a0 0 4294967295 r3 q1
  try simp -implicitDefEqProofs only [go_sem] at w2
  cases h
  simp -implicitDefEqProofs only [go_sem, Nat.reduceLT, Nat.reduceAdd, Nat.reduceMul, Nat.reduceEqDiff, Nat.reduceLeDiff, reduceCtorEq, ↓reduceIte, i76, c76, w2]
-- f77 impl.sizeOf
theorem call77 (args : List AV) (S : St) : evCall T (evFL T) 77 args S = lendC (evFL T 77) S (lendAll S [[0]] args) := evCall0 fn77 rfl rfl rfl args S
theorem callz77 (args : List AV) (S : St) : evCallFz T (evFL T) 77 args S = lendZ (evFL T 77) S [[0]] (lendAll S [[0]] args) := evCallFz0 fn77 rfl rfl rfl args S
theorem calls77 (args : List AV) (S : St) : evCall (T.at true) (evFL T) 77 args S = lendC (evFL T 77) S (lendAll S [[0]] args) := evCall0 fns77 rfl rfl rfl args S
theorem callsz77 (args : List AV) (S : St) : evCallFz (T.at true) (evFL T) 77 args S = lendZ (evFL T 77) S [[0]] (lendAll S [[0]] args) := evCallFz0 fns77 rfl rfl rfl args S
attribute [go_sem] call77 callz77 calls77 callsz77
theorem e77 (a0 : Int) (r : Int) (h : m77 a0 = some r) : evFL T 77 [.int .i64 a0] [] = some (.int .i64 r, []) := by
  unfold m77 at h
  rw [evFL_at fn77 (Nat.le_of_ble_eq_true rfl) rfl (.inr rfl) ⟨rfl, rfl⟩]
  obtain ⟨g1, h⟩ := ck_some h
  try simp -implicitDefEqProofs only [go_sem] at g1
  cases h
  simp -implicitDefEqProofs only [go_sem, Nat.reduceLT, Nat.reduceAdd, Nat.reduceMul, Nat.reduceEqDiff, Nat.reduceLeDiff, reduceCtorEq, ↓reduceIte, i77, c77, g1]
-- f37 impl.GoodPrefix
theorem call37 (args : List AV) (S : St) : evCall T (evFL T) 37 args S = lendC (evFL T 37) S (lendAll S [[0, 0]] args) := evCall0 fn37 rfl rfl rfl args S
theorem callz37 (args : List AV) (S : St) : evCallFz T (evFL T) 37 args S = lendZ (evFL T 37) S [[0]] (lendAll S [[0, 0]] args) := evCallFz0 fn37 rfl rfl rfl args S
theorem calls37 (args : List AV) (S : St) : evCall (T.at true) (evFL T) 37 args S = lendC (evFL T 37) S (lendAll S [[0, 0]] args) := evCall0 fns37 rfl rfl rfl args S
theorem callsz37 (args : List AV) (S : St) : evCallFz (T.at true) (evFL T) 37 args S = lendZ (evFL T 37) S [[0]] (lendAll S [[0, 0]] args) := evCallFz0 fns37 rfl rfl rfl args S
attribute [go_sem] call37 callz37 calls37 callsz37
noncomputable def X37_1 (a0 : Prefix) (o : Bool) : Ex × Fr × St :=
  (.normal, frOf 20 (upd anyF 2 (.bool o)), [])
theorem e37_1 (a0 : Prefix) (o : Bool) (h : m37_1 a0 = some o) : evCL T 0 k37_1 (frOf 20 (upd anyF 1 (.ptr 0 0 0))) [some ⟨.box, 2, [[.int .i64 a0.addr, .int .i64 a0.len]]⟩] = some (X37_1 a0 o) := by
  unfold m37_1 at h
  obtain ⟨r3, q1, h⟩ := bnd_some h
  have w2 := e75 a0.len 0 32 r3 q1
  try simp -implicitDefEqProofs only [go_sem] at w2
  try simp -implicitDefEqProofs only [go_sem, Nat.reduceLT, Nat.reduceAdd, Nat.reduceMul, Nat.reduceEqDiff, Nat.reduceLeDiff, reduceCtorEq, ↓reduceIte, X37_1, k37_1, w2]
  cases b4 : (r3 : Bool)
  · replace h := br_f b4 h
    cases h
    simp -implicitDefEqProofs only [go_sem, Nat.reduceLT, Nat.reduceAdd, Nat.reduceMul, Nat.reduceEqDiff, Nat.reduceLeDiff, reduceCtorEq, ↓reduceIte, X37_1, k37_1, w2, b4]
  · replace h := br_t b4 h
    obtain ⟨r7, q5, h⟩ := bnd_some h
    have w6 := e76 a0.addr r7 q5
    try simp -implicitDefEqProofs only [go_sem] at w6
    try simp -implicitDefEqProofs only [go_sem, Nat.reduceLT, Nat.reduceAdd, Nat.reduceMul, Nat.reduceEqDiff, Nat.reduceLeDiff, reduceCtorEq, ↓reduceIte, X37_1, k37_1, w2, b4, w6]
    cases b8 : (r7 : Bool)
    · replace h := br_f b8 h
      cases h
      simp -implicitDefEqProofs only [go_sem, Nat.reduceLT, Nat.reduceAdd, Nat.reduceMul, Nat.reduceEqDiff, Nat.reduceLeDiff, reduceCtorEq, ↓reduceIte, X37_1, k37_1, w2, b4, w6, b8]
    · replace h := br_t b8 h
      obtain ⟨r11, q9, h⟩ := bnd_some h
      have w10 := e77 a0.len r11 q9
      try simp -implicitDefEqProofs only [go_sem] at w10
      obtain ⟨g12, h⟩ := ck_some h
      try simp -implicitDefEqProofs only [go_sem] at g12
      cases h
      simp -implicitDefEqProofs only [go_sem, Nat.reduceLT, Nat.reduceAdd, Nat.reduceMul, Nat.reduceEqDiff, Nat.reduceLeDiff, reduceCtorEq, ↓reduceIte, X37_1, k37_1, w2, b4, w6, b8, w10, g12]
theorem e37 (a0 : Prefix) (r : Bool) (h : m37 a0 = some r) : evFL T 37 [.agg [.int .i64 a0.addr, .int .i64 a0.len]] [] = some (.bool r, []) := by
  unfold m37 at h
  rw [evFL_at fn37 (Nat.le_of_ble_eq_true rfl) rfl (.inr rfl) ⟨rfl, rfl⟩]
  obtain ⟨v15, q13, h⟩ := bnd_some h
  have w14 := e37_1 a0 v15 q13
  simp only [X37_1] at w14
  try simp -implicitDefEqProofs only [go_sem] at w14
  cases h
  simp -implicitDefEqProofs only [go_sem, Nat.reduceLT, Nat.reduceAdd, Nat.reduceMul, Nat.reduceEqDiff, Nat.reduceLeDiff, reduceCtorEq, ↓reduceIte, i37, c37, w14]
-- f86 impl.isTerm$1
theorem call86 (args : List AV) (S : St) : evCall T (evFL T) 86 args S = lendC (evFL T 86) S (lendAll S [[0, 0, 0, 0]] args) := evCall0 fn86 rfl rfl rfl args S
theorem callz86 (args : List AV) (S : St) : evCallFz T (evFL T) 86 args S = lendZ (evFL T 86) S [[0]] (lendAll S [[0, 0, 0, 0]] args) := evCallFz0 fn86 rfl rfl rfl args S
theorem calls86 (args : List AV) (S : St) : evCall (T.at true) (evFL T) 86 args S = lendC (evFL T 86) S (lendAll S [[0, 0, 0, 0]] args) := evCall0 fns86 rfl rfl rfl args S
theorem callsz86 (args : List AV) (S : St) : evCallFz (T.at true) (evFL T) 86 args S = lendZ (evFL T 86) S [[0]] (lendAll S [[0, 0, 0, 0]] args) := evCallFz0 fns86 rfl rfl rfl args S
attribute [go_sem] call86 callz86 calls86 callsz86
noncomputable def X86_1 (a0 : Range) (o : Bool) : Ex × Fr × St :=
  (.normal, frOf 27 (upd anyF 2 (.bool o)), [])
theorem e86_1 (a0 : Range) (o : Bool) (h : m86_1 a0 = some o) : evCL T 0 k86_1 (frOf 27 (upd anyF 1 (.ptr 0 0 0))) [some ⟨.box, 4, [[.int .i64 a0.prefix_.addr, .int .i64 a0.prefix_.len, .int .i64 a0.lo, .int .i64 a0.hi]]⟩] = some (X86_1 a0 o) := by
  unfold m86_1 at h
  obtain ⟨r3, q1, h⟩ := bnd_some h
  have w2 := e37 a0.prefix_ r3 q1
  try simp -implicitDefEqProofs only [go_sem] at w2
  try simp -implicitDefEqProofs only [go_sem, Nat.reduceLT, Nat.reduceAdd, Nat.reduceMul, Nat.reduceEqDiff, Nat.reduceLeDiff, reduceCtorEq, ↓reduceIte, X86_1, k86_1, w2]
  cases b4 : (r3 : Bool)
  · replace h := br_f b4 h
    cases h
    simp -implicitDefEqProofs only [go_sem, Nat.reduceLT, Nat.reduceAdd, Nat.reduceMul, Nat.reduceEqDiff, Nat.reduceLeDiff, reduceCtorEq, ↓reduceIte, X86_1, k86_1, w2, b4]
  · replace h := br_t b4 h
    try simp -implicitDefEqProofs only [go_sem, Nat.reduceLT, Nat.reduceAdd, Nat.reduceMul, Nat.reduceEqDiff, Nat.reduceLeDiff, reduceCtorEq, ↓reduceIte, X86_1, k86_1, w2, b4]
    cases b5 : (ltI a0.lo a0.prefix_.len : Bool)
    · replace h := br_f b5 h
      try simp -implicitDefEqProofs only [go_sem, Nat.reduceLT, Nat.reduceAdd, Nat.reduceMul, Nat.reduceEqDiff, Nat.reduceLeDiff, reduceCtorEq, ↓reduceIte, X86_1, k86_1, w2, b4, b5]
      cases b6 : (ltI a0.hi a0.lo : Bool)
      · replace h := br_f b6 h
        cases h
        simp -implicitDefEqProofs only [go_sem, Nat.reduceLT, Nat.reduceAdd, Nat.reduceMul, Nat.reduceEqDiff, Nat.reduceLeDiff, reduceCtorEq, ↓reduceIte, X86_1, k86_1, w2, b4, b5, b6]
      · replace h := br_t b6 h
        cases h
        simp -implicitDefEqProofs only [go_sem, Nat.reduceLT, Nat.reduceAdd, Nat.reduceMul, Nat.reduceEqDiff, Nat.reduceLeDiff, reduceCtorEq, ↓reduceIte, X86_1, k86_1, w2, b4, b5, b6]
    · replace h := br_t b5 h
      cases h
      simp -implicitDefEqProofs only [go_sem, Nat.reduceLT, Nat.reduceAdd, Nat.reduceMul, Nat.reduceEqDiff, Nat.reduceLeDiff, reduceCtorEq, ↓reduceIte, X86_1, k86_1, w2, b4, b5]
theorem e86 (a0 : Range) (r : Bool) (h : m86 a0 = some r) : evFL T 86 [.agg [.int .i64 a0.prefix_.addr, .int .i64 a0.prefix_.len, .int .i64 a0.lo, .int .i64 a0.hi]] [] = some (.bool r, []) := by
  unfold m86 at h
  rw [evFL_at fn86 (Nat.le_of_ble_eq_true rfl) rfl (.inr rfl) ⟨rfl, rfl⟩]
  obtain ⟨v9, q7, h⟩ := bnd_some h
  have w8 := e86_1 a0 v9 q7
  simp only [X86_1] at w8
  try simp -implicitDefEqProofs only [go_sem] at w8
  cases h
  simp -implicitDefEqProofs only [go_sem, Nat.reduceLT, Nat.reduceAdd, Nat.reduceMul, Nat.reduceEqDiff, Nat.reduceLeDiff, reduceCtorEq, ↓reduceIte, i86, c86, w8]
-- f127 slices.IndexFunc[[]impl.Act,impl.Act]
theorem call127 (args : List AV) (S : St) : evCall T (evFL T) 127 args S = lendC (evFL T 127) S (lendAll S [[2], [0]] args) := evCall0 fn127 rfl rfl rfl args S
theorem callz127 (args : List AV) (S : St) : evCallFz T (evFL T) 127 args S = lendZ (evFL T 127) S [[0]] (lendAll S [[2], [0]] args) := evCallFz0 fn127 rfl rfl rfl args S
theorem calls127 (args : List AV) (S : St) : evCall (T.at true) (evFL T) 127 args S = lendC (evFL T 127) S (lendAll S [[2], [0]] args) := evCall0 fns127 rfl rfl rfl args S
theorem callsz127 (args : List AV) (S : St) : evCallFz (T.at true) (evFL T) 127 args S = lendZ (evFL T 127) S [[0]] (lendAll S [[2], [0]] args) := evCallFz0 fns127 rfl rfl rfl args S
attribute [go_sem] call127 callz127 calls127 callsz127
noncomputable def X127_1 (a1_f : Nat) (a1_c : List AV) (a0 : (List Acn)) (p1 : Int) (a1 : (Acn → Option Bool)) (o : (Unit ⊕ Int)) : Ex × Fr × St :=
  match o with
  | .inl o => (.exit 0, frOf 19 (anyF), [])
  | .inr o => (.ret, frOf 19 (upd anyF 4 (.int .i64 o)), [])
noncomputable def E127_1 (a1_f : Nat) (a1_c : List AV) (a0 : (List Acn)) (p1 : Int) (a1 : (Acn → Option Bool)) (s : Int) : Fr × St := (frOf 19 (upd (upd (upd (upd anyF 0 (.ts .imm 2 (a0.map encAcn))) 1 (.fn a1_f a1_c)) 7 (.int .i64 p1)) 8 (.int .i64 s)), [])
theorem b127_1 (a0 : (List Acn)) (p1 : Int) (a1 : (Acn → Option Bool)) (a1_f : Nat) (a1_c : List AV) (a1_h : ((∀ S, mapO (lendPtr S) a1_c = some a1_c) ∧ (∀ n0 src R tm t c, tdL n0 src R tm t c a1_c = some a1_c)) ∧ ∀ y0 r, a1 y0 = some r → (∀ S, evCall T (evFL T) a1_f ([.agg [.int .i64 y0.kind, .int .i64 y0.n]] ++ a1_c) S = some (.bool r, S)) ∧ (∀ S, evCallFz T (evFL T) a1_f ([.agg [.int .i64 y0.kind, .int .i64 y0.n]] ++ a1_c) S = some (.bool r, S))) (s : Int) (o : Ctl Int (Unit ⊕ Int)) (h : m127_1b a0 p1 a1 s = some o) : evCL T 0 k127_1b (E127_1 a1_f a1_c a0 p1 a1 s).1 (E127_1 a1_f a1_c a0 p1 a1 s).2 = some (ctlX (E127_1 a1_f a1_c a0 p1 a1) (X127_1 a1_f a1_c a0 p1 a1) o) := by
  unfold m127_1b at h
  revert h
  generalize s = s12
  intro h
  try simp -implicitDefEqProofs only [go_sem, Nat.reduceLT, Nat.reduceAdd, Nat.reduceMul, Nat.reduceEqDiff, Nat.reduceLeDiff, reduceCtorEq, ↓reduceIte, E127_1, X127_1, k127_1b, a1_h.1]
  cases b13 : (ltI s12 p1 : Bool)
  · replace h := br_f b13 h
    cases h
    simp -implicitDefEqProofs only [go_sem, Nat.reduceLT, Nat.reduceAdd, Nat.reduceMul, Nat.reduceEqDiff, Nat.reduceLeDiff, reduceCtorEq, ↓reduceIte, E127_1, X127_1, k127_1b, a1_h.1, b13]
  · replace h := br_t b13 h
    obtain ⟨x14, q15, h⟩ := bnd_some h
    obtain ⟨g16, g17, g18⟩ := idx_row encAcn q15
    try simp -implicitDefEqProofs only [go_sem] at g17
    try simp -implicitDefEqProofs only [go_sem] at g18
    obtain ⟨r19, q20, h⟩ := bnd_some h
    have w21 := a1_h.2 x14 r19 q20
    try simp -implicitDefEqProofs only [go_sem] at w21
    try simp -implicitDefEqProofs only [go_sem, Nat.reduceLT, Nat.reduceAdd, Nat.reduceMul, Nat.reduceEqDiff, Nat.reduceLeDiff, reduceCtorEq, ↓reduceIte, E127_1, X127_1, k127_1b, a1_h.1, b13, g16, g17, g18, w21.1, w21.2]
    cases b22 : (r19 : Bool)
    · replace h := br_f b22 h
      cases h
      simp -implicitDefEqProofs only [go_sem, Nat.reduceLT, Nat.reduceAdd, Nat.reduceMul, Nat.reduceEqDiff, Nat.reduceLeDiff, reduceCtorEq, ↓reduceIte, E127_1, X127_1, k127_1b, a1_h.1, b13, g16, g17, g18, w21.1, w21.2, b22]
    · replace h := br_t b22 h
      cases h
      simp -implicitDefEqProofs only [go_sem, Nat.reduceLT, Nat.reduceAdd, Nat.reduceMul, Nat.reduceEqDiff, Nat.reduceLeDiff, reduceCtorEq, ↓reduceIte, E127_1, X127_1, k127_1b, a1_h.1, b13, g16, g17, g18, w21.1, w21.2, b22]
theorem e127_1 (a0 : (List Acn)) (p1 : Int) (a1 : (Acn → Option Bool)) (a1_f : Nat) (a1_c : List AV) (a1_h : ((∀ S, mapO (lendPtr S) a1_c = some a1_c) ∧ (∀ n0 src R tm t c, tdL n0 src R tm t c a1_c = some a1_c)) ∧ ∀ y0 r, a1 y0 = some r → (∀ S, evCall T (evFL T) a1_f ([.agg [.int .i64 y0.kind, .int .i64 y0.n]] ++ a1_c) S = some (.bool r, S)) ∧ (∀ S, evCallFz T (evFL T) a1_f ([.agg [.int .i64 y0.kind, .int .i64 y0.n]] ++ a1_c) S = some (.bool r, S))) (s : Int) (o : (Unit ⊕ Int)) (h : loopP (m127_1b a0 p1 a1) s = some o) : evCL T 0 (.loop k127_1b) (E127_1 a1_f a1_c a0 p1 a1 s).1 (E127_1 a1_f a1_c a0 p1 a1 s).2 = some (X127_1 a1_f a1_c a0 p1 a1 o) :=
  loop_walk (E := E127_1 a1_f a1_c a0 p1 a1) (X := X127_1 a1_f a1_c a0 p1 a1) (by intro b; rcases b with b | b <;> (simp only [X127_1]; nofun)) (b127_1 a0 p1 a1 a1_f a1_c a1_h) s o h
theorem e127 (a0 : (List Acn)) (a1 : (Acn → Option Bool)) (a1_f : Nat) (a1_c : List AV) (a1_h : ((∀ S, mapO (lendPtr S) a1_c = some a1_c) ∧ (∀ n0 src R tm t c, tdL n0 src R tm t c a1_c = some a1_c)) ∧ ∀ y0 r, a1 y0 = some r → (∀ S, evCall T (evFL T) a1_f ([.agg [.int .i64 y0.kind, .int .i64 y0.n]] ++ a1_c) S = some (.bool r, S)) ∧ (∀ S, evCallFz T (evFL T) a1_f ([.agg [.int .i64 y0.kind, .int .i64 y0.n]] ++ a1_c) S = some (.bool r, S))) (r : Int) (h : m127 a0 a1 = some r) : evFL T 127 [.ts .imm 2 (a0.map encAcn), .fn a1_f a1_c] [] = some (.int .i64 r, []) := by
  unfold m127 at h
  rw [evFL_at fn127 (Nat.le_of_ble_eq_true rfl) rfl (.inr rfl) ⟨rfl, rfl⟩]
  try simp -implicitDefEqProofs only [go_sem, Nat.reduceLT, Nat.reduceAdd, Nat.reduceMul, Nat.reduceEqDiff, Nat.reduceLeDiff, reduceCtorEq, ↓reduceIte, i127, c127, a1_h.1]
  obtain ⟨o, q23, h⟩ := bnd_some h
  rcases o with ⟨⟩ | v25
  · replace h := selS_l h
    have w24 := e127_1 a0 (↑a0.length : Int) a1 a1_f a1_c a1_h 0 (.inl ()) q23
    simp only [E127_1, X127_1] at w24
    try simp -implicitDefEqProofs only [go_sem] at w24
    cases h
    simp -implicitDefEqProofs only [go_sem, Nat.reduceLT, Nat.reduceAdd, Nat.reduceMul, Nat.reduceEqDiff, Nat.reduceLeDiff, reduceCtorEq, ↓reduceIte, i127, c127, a1_h.1, w24]
  · replace h := selS_r h
    have w24 := e127_1 a0 (↑a0.length : Int) a1 a1_f a1_c a1_h 0 (.inr v25) q23
    simp only [E127_1, X127_1] at w24
    try simp -implicitDefEqProofs only [go_sem] at w24
    cases h
    simp -implicitDefEqProofs only [go_sem, Nat.reduceLT, Nat.reduceAdd, Nat.reduceMul, Nat.reduceEqDiff, Nat.reduceLeDiff, reduceCtorEq, ↓reduceIte, i127, c127, a1_h.1, w24]
-- f87 slices.ContainsFunc[[]impl.Act,impl.Act]
theorem call87 (args : List AV) (S : St) : evCall T (evFL T) 87 args S = lendC (evFL T 87) S (lendAll S [[2], [0]] args) := evCall0 fn87 rfl rfl rfl args S
theorem callz87 (args : List AV) (S : St) : evCallFz T (evFL T) 87 args S = lendZ (evFL T 87) S [[0]] (lendAll S [[2], [0]] args) := evCallFz0 fn87 rfl rfl rfl args S
theorem calls87 (args : List AV) (S : St) : evCall (T.at true) (evFL T) 87 args S = lendC (evFL T 87) S (lendAll S [[2], [0]] args) := evCall0 fns87 rfl rfl rfl args S
theorem callsz87 (args : List AV) (S : St) : evCallFz (T.at true) (evFL T) 87 args S = lendZ (evFL T 87) S [[0]] (lendAll S [[2], [0]] args) := evCallFz0 fns87 rfl rfl rfl args S
attribute [go_sem] call87 callz87 calls87 callsz87
theorem e87 (a0 : (List Acn)) (a1 : (Acn → Option Bool)) (a1_f : Nat) (a1_c : List AV) (a1_h : ((∀ S, mapO (lendPtr S) a1_c = some a1_c) ∧ (∀ n0 src R tm t c, tdL n0 src R tm t c a1_c = some a1_c)) ∧ ∀ y0 r, a1 y0 = some r → (∀ S, evCall T (evFL T) a1_f ([.agg [.int .i64 y0.kind, .int .i64 y0.n]] ++ a1_c) S = some (.bool r, S)) ∧ (∀ S, evCallFz T (evFL T) a1_f ([.agg [.int .i64 y0.kind, .int .i64 y0.n]] ++ a1_c) S = some (.bool r, S))) (r : Bool) (h : m87 a0 a1 = some r) : evFL T 87 [.ts .imm 2 (a0.map encAcn), .fn a1_f a1_c] [] = some (.bool r, []) := by
  unfold m87 at h
  rw [evFL_at fn87 (Nat.le_of_ble_eq_true rfl) rfl (.inr rfl) ⟨rfl, rfl⟩]
  obtain ⟨r3, q1, h⟩ := bnd_some h
  have w2 := e127 a0 a1 a1_f a1_c a1_h r3 q1
  try simp -implicitDefEqProofs only [go_sem] at w2
  cases h
  simp -implicitDefEqProofs only [go_sem, Nat.reduceLT, Nat.reduceAdd, Nat.reduceMul, Nat.reduceEqDiff, Nat.reduceLeDiff, reduceCtorEq, ↓reduceIte, i87, c87, a1_h.1, w2]
-- f50 impl.isAct
theorem call50 (args : List AV) (S : St) : evCall T (evFL T) 50 args S = lendC (evFL T 50) S (lendAll S [[0, 0]] args) := evCall0 fn50 rfl rfl rfl args S
theorem callz50 (args : List AV) (S : St) : evCallFz T (evFL T) 50 args S = lendZ (evFL T 50) S [[0]] (lendAll S [[0, 0]] args) := evCallFz0 fn50 rfl rfl rfl args S
theorem calls50 (args : List AV) (S : St) : evCall (T.at true) (evFL T) 50 args S = lendC (evFL T 50) S (lendAll S [[0, 0]] args) := evCall0 fns50 rfl rfl rfl args S
theorem callsz50 (args : List AV) (S : St) : evCallFz (T.at true) (evFL T) 50 args S = lendZ (evFL T 50) S [[0]] (lendAll S [[0, 0]] args) := evCallFz0 fns50 rfl rfl rfl args S
attribute [go_sem] call50 callz50 calls50 callsz50
noncomputable def X50_3 (a0 : Acn) (p5 : Bool) (o : Bool) : Ex × Fr × St :=
  (.normal, frOf 18 (upd (upd (upd anyF 1 (.ptr 0 0 0)) 4 (.int .i64 a0.kind)) 5 (.bool o)), [some ⟨.box, 2, [[.int .i64 a0.kind, .int .i64 a0.n]]⟩])
theorem e50_3 (a0 : Acn) (p5 : Bool) (o : Bool) (h : m50_3 a0 p5 = some o) : evCL T 0 k50_3 (frOf 18 (upd (upd (upd anyF 1 (.ptr 0 0 0)) 4 (.int .i64 a0.kind)) 5 (.bool p5))) [some ⟨.box, 2, [[.int .i64 a0.kind, .int .i64 a0.n]]⟩] = some (X50_3 a0 p5 o) := by
  unfold m50_3 at h
  try simp -implicitDefEqProofs only [go_sem, Nat.reduceLT, Nat.reduceAdd, Nat.reduceMul, Nat.reduceEqDiff, Nat.reduceLeDiff, reduceCtorEq, ↓reduceIte, X50_3, k50_3]
  cases b6 : (p5 : Bool)
  · replace h := br_f b6 h
    cases h
    simp -implicitDefEqProofs only [go_sem, Nat.reduceLT, Nat.reduceAdd, Nat.reduceMul, Nat.reduceEqDiff, Nat.reduceLeDiff, reduceCtorEq, ↓reduceIte, X50_3, k50_3, b6]
  · replace h := br_t b6 h
    cases h
    simp -implicitDefEqProofs only [go_sem, Nat.reduceLT, Nat.reduceAdd, Nat.reduceMul, Nat.reduceEqDiff, Nat.reduceLeDiff, reduceCtorEq, ↓reduceIte, X50_3, k50_3, b6]
noncomputable def X50_2 (a0 : Acn) (p3 : Bool) (o : Bool) : Ex × Fr × St :=
  (.normal, frOf 18 (upd (upd (upd anyF 1 (.ptr 0 0 0)) 4 (.int .i64 a0.kind)) 5 (.bool o)), [some ⟨.box, 2, [[.int .i64 a0.kind, .int .i64 a0.n]]⟩])
theorem e50_2 (a0 : Acn) (p3 : Bool) (o : Bool) (h : m50_2 a0 p3 = some o) : evCL T 0 k50_2 (frOf 18 (upd (upd (upd anyF 1 (.ptr 0 0 0)) 4 (.int .i64 a0.kind)) 5 (.bool p3))) [some ⟨.box, 2, [[.int .i64 a0.kind, .int .i64 a0.n]]⟩] = some (X50_2 a0 p3 o) := by
  unfold m50_2 at h
  try simp -implicitDefEqProofs only [go_sem, Nat.reduceLT, Nat.reduceAdd, Nat.reduceMul, Nat.reduceEqDiff, Nat.reduceLeDiff, reduceCtorEq, ↓reduceIte, X50_2, k50_2]
  cases b4 : (p3 : Bool)
  · replace h := br_f b4 h
    obtain ⟨v9, q7, h⟩ := bnd_some h
    have w8 := e50_3 a0 (eqI a0.kind 3) v9 q7
    simp only [X50_3] at w8
    try simp -implicitDefEqProofs only [go_sem] at w8
    cases h
    simp -implicitDefEqProofs only [go_sem, Nat.reduceLT, Nat.reduceAdd, Nat.reduceMul, Nat.reduceEqDiff, Nat.reduceLeDiff, reduceCtorEq, ↓reduceIte, X50_2, k50_2, b4, w8]
  · replace h := br_t b4 h
    cases h
    simp -implicitDefEqProofs only [go_sem, Nat.reduceLT, Nat.reduceAdd, Nat.reduceMul, Nat.reduceEqDiff, Nat.reduceLeDiff, reduceCtorEq, ↓reduceIte, X50_2, k50_2, b4]
noncomputable def X50_1 (a0 : Acn) (p1 : Bool) (o : Bool) : Ex × Fr × St :=
  (.normal, frOf 18 (upd (upd (upd anyF 1 (.ptr 0 0 0)) 4 (.int .i64 a0.kind)) 5 (.bool o)), [some ⟨.box, 2, [[.int .i64 a0.kind, .int .i64 a0.n]]⟩])
theorem e50_1 (a0 : Acn) (p1 : Bool) (o : Bool) (h : m50_1 a0 p1 = some o) : evCL T 0 k50_1 (frOf 18 (upd (upd (upd anyF 1 (.ptr 0 0 0)) 4 (.int .i64 a0.kind)) 5 (.bool p1))) [some ⟨.box, 2, [[.int .i64 a0.kind, .int .i64 a0.n]]⟩] = some (X50_1 a0 p1 o) := by
  unfold m50_1 at h
  try simp -implicitDefEqProofs only [go_sem, Nat.reduceLT, Nat.reduceAdd, Nat.reduceMul, Nat.reduceEqDiff, Nat.reduceLeDiff, reduceCtorEq, ↓reduceIte, X50_1, k50_1]
  cases b2 : (p1 : Bool)
  · replace h := br_f b2 h
    obtain ⟨v12, q10, h⟩ := bnd_some h
    have w11 := e50_2 a0 (eqI a0.kind 2) v12 q10
    simp only [X50_2] at w11
    try simp -implicitDefEqProofs only [go_sem] at w11
    cases h
    simp -implicitDefEqProofs only [go_sem, Nat.reduceLT, Nat.reduceAdd, Nat.reduceMul, Nat.reduceEqDiff, Nat.reduceLeDiff, reduceCtorEq, ↓reduceIte, X50_1, k50_1, b2, w11]
  · replace h := br_t b2 h
    cases h
    simp -implicitDefEqProofs only [go_sem, Nat.reduceLT, Nat.reduceAdd, Nat.reduceMul, Nat.reduceEqDiff, Nat.reduceLeDiff, reduceCtorEq, ↓reduceIte, X50_1, k50_1, b2]
theorem e50 (a0 : Acn) (r : Bool) (h : m50 a0 = some r) : evFL T 50 [.agg [.int .i64 a0.kind, .int .i64 a0.n]] [] = some (.bool r, []) := by
  unfold m50 at h
  rw [evFL_at fn50 (Nat.le_of_ble_eq_true rfl) rfl (.inr rfl) ⟨rfl, rfl⟩]
  obtain ⟨v15, q13, h⟩ := bnd_some h
  have w14 := e50_1 a0 (eqI a0.kind 1) v15 q13
  simp only [X50_1] at w14
  try simp -implicitDefEqProofs only [go_sem] at w14
  try simp -implicitDefEqProofs only [go_sem, Nat.reduceLT, Nat.reduceAdd, Nat.reduceMul, Nat.reduceEqDiff, Nat.reduceLeDiff, reduceCtorEq, ↓reduceIte, i50, c50, w14]
  cases b16 : (v15 : Bool)
  · replace h := br_f b16 h
    try simp -implicitDefEqProofs only [go_sem, Nat.reduceLT, Nat.reduceAdd, Nat.reduceMul, Nat.reduceEqDiff, Nat.reduceLeDiff, reduceCtorEq, ↓reduceIte, i50, c50, w14, b16]
    cases b20 : (eqI a0.kind 5 : Bool)
    · replace h := br_f b20 h
      cases h
      simp -implicitDefEqProofs only [go_sem, Nat.reduceLT, Nat.reduceAdd, Nat.reduceMul, Nat.reduceEqDiff, Nat.reduceLeDiff, reduceCtorEq, ↓reduceIte, i50, c50, w14, b16, b20]
    · replace h := br_t b20 h
      obtain ⟨r23, q21, h⟩ := bnd_some h
      have w22 := e91 a0.n r23 q21
      try simp -implicitDefEqProofs only [go_sem] at w22
      cases h
      simp -implicitDefEqProofs only [go_sem, Nat.reduceLT, Nat.reduceAdd, Nat.reduceMul, Nat.reduceEqDiff, Nat.reduceLeDiff, reduceCtorEq, ↓reduceIte, i50, c50, w14, b16, b20, w22]
  · replace h := br_t b16 h
    obtain ⟨r19, q17, h⟩ := bnd_some h
    have w18 := e79 a0.n r19 q17
    try simp -implicitDefEqProofs only [go_sem] at w18
    cases h
    simp -implicitDefEqProofs only [go_sem, Nat.reduceLT, Nat.reduceAdd, Nat.reduceMul, Nat.reduceEqDiff, Nat.reduceLeDiff, reduceCtorEq, ↓reduceIte, i50, c50, w14, b16, w18]
-- f88 impl.isTerm$2
theorem call88 (args : List AV) (S : St) : evCall T (evFL T) 88 args S = lendC (evFL T 88) S (lendAll S [[0, 0]] args) := evCall0 fn88 rfl rfl rfl args S
theorem callz88 (args : List AV) (S : St) : evCallFz T (evFL T) 88 args S = lendZ (evFL T 88) S [[0]] (lendAll S [[0, 0]] args) := evCallFz0 fn88 rfl rfl rfl args S
theorem calls88 (args : List AV) (S : St) : evCall (T.at true) (evFL T) 88 args S = lendC (evFL T 88) S (lendAll S [[0, 0]] args) := evCall0 fns88 rfl rfl rfl args S
theorem callsz88 (args : List AV) (S : St) : evCallFz (T.at true) (evFL T) 88 args S = lendZ (evFL T 88) S [[0]] (lendAll S [[0, 0]] args) := evCallFz0 fns88 rfl rfl rfl args S
attribute [go_sem] call88 callz88 calls88 callsz88
theorem e88 (a0 : Acn) (r : Bool) (h : m88 a0 = some r) : evFL T 88 [.agg [.int .i64 a0.kind, .int .i64 a0.n]] [] = some (.bool r, []) := by
  unfold m88 at h
  rw [evFL_at fn88 (Nat.le_of_ble_eq_true rfl) rfl (.inr rfl) ⟨rfl, rfl⟩]
  obtain ⟨r3, q1, h⟩ := bnd_some h
  have w2 := e50 a0 r3 q1
  try simp -implicitDefEqProofs only [go_sem] at w2
  cases h
  simp -implicitDefEqProofs only [go_sem, Nat.reduceLT, Nat.reduceAdd, Nat.reduceMul, Nat.reduceEqDiff, Nat.reduceLeDiff, reduceCtorEq, ↓reduceIte, i88, c88, w2]
-- f46 impl.isTerm
theorem call46 (args : List AV) (S : St) : evCall T (evFL T) 46 args S = lendC (evFL T 46) S (lendAll S [[4, 2, 0, 2, 0]] args) := evCall0 fn46 rfl rfl rfl args S
theorem callz46 (args : List AV) (S : St) : evCallFz T (evFL T) 46 args S = lendZ (evFL T 46) S [[0]] (lendAll S [[4, 2, 0, 2, 0]] args) := evCallFz0 fn46 rfl rfl rfl args S
theorem calls46 (args : List AV) (S : St) : evCall (T.at true) (evFL T) 46 args S = lendC (evFL T 46) S (lendAll S [[4, 2, 0, 2, 0]] args) := evCall0 fns46 rfl rfl rfl args S
theorem callsz46 (args : List AV) (S : St) : evCallFz (T.at true) (evFL T) 46 args S = lendZ (evFL T 46) S [[0]] (lendAll S [[4, 2, 0, 2, 0]] args) := evCallFz0 fns46 rfl rfl rfl args S
attribute [go_sem] call46 callz46 calls46 callsz46
noncomputable def X46_1 (a0 : Term) (o : Bool) : Ex × Fr × St :=
  (.normal, frOf 52 (upd (upd anyF 1 (.ptr 0 0 0)) 41 (.bool o)), [some ⟨.box, 5, [[.ts .imm 4 (a0.ranges.map encRange), .ts .imm 2 (a0.path.map encReCell), .int .i64 a0.comm, .ts .imm 2 (a0.acts.map encAcn), .int .i64 a0.verdict]]⟩])
theorem e46_1 (a0 : Term) (o : Bool) (h : m46_1 a0 = some o) : evCL T 0 k46_1 (frOf 52 (upd anyF 1 (.ptr 0 0 0))) [some ⟨.box, 5, [[.ts .imm 4 (a0.ranges.map encRange), .ts .imm 2 (a0.path.map encReCell), .int .i64 a0.comm, .ts .imm 2 (a0.acts.map encAcn), .int .i64 a0.verdict]]⟩] = some (X46_1 a0 o) := by
  unfold m46_1 at h
  try simp -implicitDefEqProofs only [go_sem, Nat.reduceLT, Nat.reduceAdd, Nat.reduceMul, Nat.reduceEqDiff, Nat.reduceLeDiff, reduceCtorEq, ↓reduceIte, X46_1, k46_1]
  cases b1 : (ltI 6 (↑a0.ranges.length : Int) : Bool)
  · replace h := br_f b1 h
    try simp -implicitDefEqProofs only [go_sem, Nat.reduceLT, Nat.reduceAdd, Nat.reduceMul, Nat.reduceEqDiff, Nat.reduceLeDiff, reduceCtorEq, ↓reduceIte, X46_1, k46_1, b1]
    cases b2 : (ltI 0 (↑a0.path.length : Int) : Bool)
    · replace h := br_f b2 h
      try simp -implicitDefEqProofs only [go_sem, Nat.reduceLT, Nat.reduceAdd, Nat.reduceMul, Nat.reduceEqDiff, Nat.reduceLeDiff, reduceCtorEq, ↓reduceIte, X46_1, k46_1, b1, b2]
      cases b20 : (eqI a0.comm (-1) : Bool)
      · replace h := br_f b20 h
        obtain ⟨r27, q25, h⟩ := bnd_some h
        have w26 := e79 a0.comm r27 q25
        try simp -implicitDefEqProofs only [go_sem] at w26
        try simp -implicitDefEqProofs only [go_sem, Nat.reduceLT, Nat.reduceAdd, Nat.reduceMul, Nat.reduceEqDiff, Nat.reduceLeDiff, reduceCtorEq, ↓reduceIte, X46_1, k46_1, b1, b2, b20, w26]
        cases b28 : (r27 : Bool)
        · replace h := br_f b28 h
          cases h
          simp -implicitDefEqProofs only [go_sem, Nat.reduceLT, Nat.reduceAdd, Nat.reduceMul, Nat.reduceEqDiff, Nat.reduceLeDiff, reduceCtorEq, ↓reduceIte, X46_1, k46_1, b1, b2, b20, w26, b28]
        · replace h := br_t b28 h
          try simp -implicitDefEqProofs only [go_sem, Nat.reduceLT, Nat.reduceAdd, Nat.reduceMul, Nat.reduceEqDiff, Nat.reduceLeDiff, reduceCtorEq, ↓reduceIte, X46_1, k46_1, b1, b2, b20, w26, b28]
          cases b29 : (ltI 5 (↑a0.acts.length : Int) : Bool)
          · replace h := br_f b29 h
            obtain ⟨r32, q30, h⟩ := bnd_some h
            have w31 := e75 a0.verdict 0 2 r32 q30
            try simp -implicitDefEqProofs only [go_sem] at w31
            cases h
            simp -implicitDefEqProofs only [go_sem, Nat.reduceLT, Nat.reduceAdd, Nat.reduceMul, Nat.reduceEqDiff, Nat.reduceLeDiff, reduceCtorEq, ↓reduceIte, X46_1, k46_1, b1, b2, b20, w26, b28, b29, w31]
          · replace h := br_t b29 h
            cases h
            simp -implicitDefEqProofs only [go_sem, Nat.reduceLT, Nat.reduceAdd, Nat.reduceMul, Nat.reduceEqDiff, Nat.reduceLeDiff, reduceCtorEq, ↓reduceIte, X46_1, k46_1, b1, b2, b20, w26, b28, b29]
      · replace h := br_t b20 h
        try simp -implicitDefEqProofs only [go_sem, Nat.reduceLT, Nat.reduceAdd, Nat.reduceMul, Nat.reduceEqDiff, Nat.reduceLeDiff, reduceCtorEq, ↓reduceIte, X46_1, k46_1, b1, b2, b20]
        cases b21 : (ltI 5 (↑a0.acts.length : Int) : Bool)
        · replace h := br_f b21 h
          obtain ⟨r24, q22, h⟩ := bnd_some h
          have w23 := e75 a0.verdict 0 2 r24 q22
          try simp -implicitDefEqProofs only [go_sem] at w23
          cases h
          simp -implicitDefEqProofs only [go_sem, Nat.reduceLT, Nat.reduceAdd, Nat.reduceMul, Nat.reduceEqDiff, Nat.reduceLeDiff, reduceCtorEq, ↓reduceIte, X46_1, k46_1, b1, b2, b20, b21, w23]
        · replace h := br_t b21 h
          cases h
          simp -implicitDefEqProofs only [go_sem, Nat.reduceLT, Nat.reduceAdd, Nat.reduceMul, Nat.reduceEqDiff, Nat.reduceLeDiff, reduceCtorEq, ↓reduceIte, X46_1, k46_1, b1, b2, b20, b21]
    · replace h := br_t b2 h
      obtain ⟨r5, q3, h⟩ := bnd_some h
      have w4 := e84 a0.path r5 q3
      try simp -implicitDefEqProofs only [go_sem] at w4
      try simp -implicitDefEqProofs only [go_sem, Nat.reduceLT, Nat.reduceAdd, Nat.reduceMul, Nat.reduceEqDiff, Nat.reduceLeDiff, reduceCtorEq, ↓reduceIte, X46_1, k46_1, b1, b2, w4]
      cases b6 : (r5 : Bool)
      · replace h := br_f b6 h
        cases h
        simp -implicitDefEqProofs only [go_sem, Nat.reduceLT, Nat.reduceAdd, Nat.reduceMul, Nat.reduceEqDiff, Nat.reduceLeDiff, reduceCtorEq, ↓reduceIte, X46_1, k46_1, b1, b2, w4, b6]
      · replace h := br_t b6 h
        try simp -implicitDefEqProofs only [go_sem, Nat.reduceLT, Nat.reduceAdd, Nat.reduceMul, Nat.reduceEqDiff, Nat.reduceLeDiff, reduceCtorEq, ↓reduceIte, X46_1, k46_1, b1, b2, w4, b6]
        cases b7 : (eqI a0.comm (-1) : Bool)
        · replace h := br_f b7 h
          obtain ⟨r14, q12, h⟩ := bnd_some h
          have w13 := e79 a0.comm r14 q12
          try simp -implicitDefEqProofs only [go_sem] at w13
          try simp -implicitDefEqProofs only [go_sem, Nat.reduceLT, Nat.reduceAdd, Nat.reduceMul, Nat.reduceEqDiff, Nat.reduceLeDiff, reduceCtorEq, ↓reduceIte, X46_1, k46_1, b1, b2, w4, b6, b7, w13]
          cases b15 : (r14 : Bool)
          · replace h := br_f b15 h
            cases h
            simp -implicitDefEqProofs only [go_sem, Nat.reduceLT, Nat.reduceAdd, Nat.reduceMul, Nat.reduceEqDiff, Nat.reduceLeDiff, reduceCtorEq, ↓reduceIte, X46_1, k46_1, b1, b2, w4, b6, b7, w13, b15]
          · replace h := br_t b15 h
            try simp -implicitDefEqProofs only [go_sem, Nat.reduceLT, Nat.reduceAdd, Nat.reduceMul, Nat.reduceEqDiff, Nat.reduceLeDiff, reduceCtorEq, ↓reduceIte, X46_1, k46_1, b1, b2, w4, b6, b7, w13, b15]
            cases b16 : (ltI 5 (↑a0.acts.length : Int) : Bool)
            · replace h := br_f b16 h
              obtain ⟨r19, q17, h⟩ := bnd_some h
              have w18 := e75 a0.verdict 0 2 r19 q17
              try simp -implicitDefEqProofs only [go_sem] at w18
              cases h
              simp -implicitDefEqProofs only [go_sem, Nat.reduceLT, Nat.reduceAdd, Nat.reduceMul, Nat.reduceEqDiff, Nat.reduceLeDiff, reduceCtorEq, ↓reduceIte, X46_1, k46_1, b1, b2, w4, b6, b7, w13, b15, b16, w18]
            · replace h := br_t b16 h
              cases h
              simp -implicitDefEqProofs only [go_sem, Nat.reduceLT, Nat.reduceAdd, Nat.reduceMul, Nat.reduceEqDiff, Nat.reduceLeDiff, reduceCtorEq, ↓reduceIte, X46_1, k46_1, b1, b2, w4, b6, b7, w13, b15, b16]
        · replace h := br_t b7 h
          try simp -implicitDefEqProofs only [go_sem, Nat.reduceLT, Nat.reduceAdd, Nat.reduceMul, Nat.reduceEqDiff, Nat.reduceLeDiff, reduceCtorEq, ↓reduceIte, X46_1, k46_1, b1, b2, w4, b6, b7]
          cases b8 : (ltI 5 (↑a0.acts.length : Int) : Bool)
          · replace h := br_f b8 h
            obtain ⟨r11, q9, h⟩ := bnd_some h
            have w10 := e75 a0.verdict 0 2 r11 q9
            try simp -implicitDefEqProofs only [go_sem] at w10
            cases h
            simp -implicitDefEqProofs only [go_sem, Nat.reduceLT, Nat.reduceAdd, Nat.reduceMul, Nat.reduceEqDiff, Nat.reduceLeDiff, reduceCtorEq, ↓reduceIte, X46_1, k46_1, b1, b2, w4, b6, b7, b8, w10]
          · replace h := br_t b8 h
            cases h
            simp -implicitDefEqProofs only [go_sem, Nat.reduceLT, Nat.reduceAdd, Nat.reduceMul, Nat.reduceEqDiff, Nat.reduceLeDiff, reduceCtorEq, ↓reduceIte, X46_1, k46_1, b1, b2, w4, b6, b7, b8]
  · replace h := br_t b1 h
    cases h
    simp -implicitDefEqProofs only [go_sem, Nat.reduceLT, Nat.reduceAdd, Nat.reduceMul, Nat.reduceEqDiff, Nat.reduceLeDiff, reduceCtorEq, ↓reduceIte, X46_1, k46_1, b1]
noncomputable def X46_2 (a0 : Term) (o : Bool) : Ex × Fr × St :=
  (.normal, frOf 52 (upd anyF 2 (.bool o)), [])
theorem e46_2 (a0 : Term) (o : Bool) (h : m46_2 a0 = some o) : evCL T 0 k46_2 (frOf 52 (upd anyF 1 (.ptr 0 0 0))) [some ⟨.box, 5, [[.ts .imm 4 (a0.ranges.map encRange), .ts .imm 2 (a0.path.map encReCell), .int .i64 a0.comm, .ts .imm 2 (a0.acts.map encAcn), .int .i64 a0.verdict]]⟩] = some (X46_2 a0 o) := by
  unfold m46_2 at h
  obtain ⟨r39, q37, h⟩ := bnd_some h
  have w38 := e85 a0.ranges (fun y0 => m86 y0) 86 [] ⟨⟨fun S => by simp -implicitDefEqProofs only [go_sem, Nat.reduceLT, Nat.reduceAdd, Nat.reduceMul, Nat.reduceEqDiff, Nat.reduceLeDiff, reduceCtorEq, ↓reduceIte], fun _ _ _ _ _ _ => by simp -implicitDefEqProofs only [go_sem, Nat.reduceLT, Nat.reduceAdd, Nat.reduceMul, Nat.reduceEqDiff, Nat.reduceLeDiff, reduceCtorEq, ↓reduceIte]⟩, fun y0 r h => ⟨fun S => by simp -implicitDefEqProofs only [go_sem, Nat.reduceLT, Nat.reduceAdd, Nat.reduceMul, Nat.reduceEqDiff, Nat.reduceLeDiff, reduceCtorEq, ↓reduceIte, e86 y0 r h], fun S => by simp -implicitDefEqProofs only [go_sem, Nat.reduceLT, Nat.reduceAdd, Nat.reduceMul, Nat.reduceEqDiff, Nat.reduceLeDiff, reduceCtorEq, ↓reduceIte, e86 y0 r h]⟩⟩ r39 q37
  try simp -implicitDefEqProofs only [go_sem] at w38
  try simp -implicitDefEqProofs only [go_sem, Nat.reduceLT, Nat.reduceAdd, Nat.reduceMul, Nat.reduceEqDiff, Nat.reduceLeDiff, reduceCtorEq, ↓reduceIte, X46_2, k46_2, w38]
  cases b40 : (r39 : Bool)
  · replace h := br_f b40 h
    obtain ⟨r43, q41, h⟩ := bnd_some h
    have w42 := e87 a0.acts (fun y0 => m88 y0) 88 [] ⟨⟨fun S => by simp -implicitDefEqProofs only [go_sem, Nat.reduceLT, Nat.reduceAdd, Nat.reduceMul, Nat.reduceEqDiff, Nat.reduceLeDiff, reduceCtorEq, ↓reduceIte], fun _ _ _ _ _ _ => by simp -implicitDefEqProofs only [go_sem, Nat.reduceLT, Nat.reduceAdd, Nat.reduceMul, Nat.reduceEqDiff, Nat.reduceLeDiff, reduceCtorEq, ↓reduceIte]⟩, fun y0 r h => ⟨fun S => by simp -implicitDefEqProofs only [go_sem, Nat.reduceLT, Nat.reduceAdd, Nat.reduceMul, Nat.reduceEqDiff, Nat.reduceLeDiff, reduceCtorEq, ↓reduceIte, e88 y0 r h], fun S => by simp -implicitDefEqProofs only [go_sem, Nat.reduceLT, Nat.reduceAdd, Nat.reduceMul, Nat.reduceEqDiff, Nat.reduceLeDiff, reduceCtorEq, ↓reduceIte, e88 y0 r h]⟩⟩ r43 q41
    try simp -implicitDefEqProofs only [go_sem] at w42
    cases h
    simp -implicitDefEqProofs only [go_sem, Nat.reduceLT, Nat.reduceAdd, Nat.reduceMul, Nat.reduceEqDiff, Nat.reduceLeDiff, reduceCtorEq, ↓reduceIte, X46_2, k46_2, w38, b40, w42]
  · replace h := br_t b40 h
    cases h
    simp -implicitDefEqProofs only [go_sem, Nat.reduceLT, Nat.reduceAdd, Nat.reduceMul, Nat.reduceEqDiff, Nat.reduceLeDiff, reduceCtorEq, ↓reduceIte, X46_2, k46_2, w38, b40]
theorem e46 (a0 : Term) (r : Bool) (h : m46 a0 = some r) : evFL T 46 [.agg [.ts .imm 4 (a0.ranges.map encRange), .ts .imm 2 (a0.path.map encReCell), .int .i64 a0.comm, .ts .imm 2 (a0.acts.map encAcn), .int .i64 a0.verdict]] [] = some (.bool r, []) := by
  unfold m46 at h
  rw [evFL_at fn46 (Nat.le_of_ble_eq_true rfl) rfl (.inr rfl) ⟨rfl, rfl⟩]
  obtain ⟨v35, q33, h⟩ := bnd_some h
  have w34 := e46_1 a0 v35 q33
  simp only [X46_1] at w34
  try simp -implicitDefEqProofs only [go_sem] at w34
  try simp -implicitDefEqProofs only [go_sem, Nat.reduceLT, Nat.reduceAdd, Nat.reduceMul, Nat.reduceEqDiff, Nat.reduceLeDiff, reduceCtorEq, ↓reduceIte, i46, c46, w34]
  cases b36 : (v35 : Bool)
  · replace h := br_f b36 h
    obtain ⟨v46, q44, h⟩ := bnd_some h
    have w45 := e46_2 a0 v46 q44
    simp only [X46_2] at w45
    try simp -implicitDefEqProofs only [go_sem] at w45
    cases h
    simp -implicitDefEqProofs only [go_sem, Nat.reduceLT, Nat.reduceAdd, Nat.reduceMul, Nat.reduceEqDiff, Nat.reduceLeDiff, reduceCtorEq, ↓reduceIte, i46, c46, w34, b36, w45]
  · replace h := br_t b36 h
    cases h
    simp -implicitDefEqProofs only [go_sem, Nat.reduceLT, Nat.reduceAdd, Nat.reduceMul, Nat.reduceEqDiff, Nat.reduceLeDiff, reduceCtorEq, ↓reduceIte, i46, c46, w34, b36]
-- f45 impl.GoodPolicy$1
theorem call45 (args : List AV) (S : St) : evCall T (evFL T) 45 args S = lendC (evFL T 45) S (lendAll S [[4, 2, 0, 2, 0]] args) := evCall0 fn45 rfl rfl rfl args S
theorem callz45 (args : List AV) (S : St) : evCallFz T (evFL T) 45 args S = lendZ (evFL T 45) S [[0]] (lendAll S [[4, 2, 0, 2, 0]] args) := evCallFz0 fn45 rfl rfl rfl args S
theorem calls45 (args : List AV) (S : St) : evCall (T.at true) (evFL T) 45 args S = lendC (evFL T 45) S (lendAll S [[4, 2, 0, 2, 0]] args) := evCall0 fns45 rfl rfl rfl args S
theorem callsz45 (args : List AV) (S : St) : evCallFz (T.at true) (evFL T) 45 args S = lendZ (evFL T 45) S [[0]] (lendAll S [[4, 2, 0, 2, 0]] args) := evCallFz0 fns45 rfl rfl rfl args S
attribute [go_sem] call45 callz45 calls45 callsz45
theorem e45 (a0 : Term) (r : Bool) (h : m45 a0 = some r) : evFL T 45 [.agg [.ts .imm 4 (a0.ranges.map encRange), .ts .imm 2 (a0.path.map encReCell), .int .i64 a0.comm, .ts .imm 2 (a0.acts.map encAcn), .int .i64 a0.verdict]] [] = some (.bool r, []) := by
  unfold m45 at h
  rw [evFL_at fn45 (Nat.le_of_ble_eq_true rfl) rfl (.inr rfl) ⟨rfl, rfl⟩]
  obtain ⟨r3, q1, h⟩ := bnd_some h
  have w2 := e46 a0 r3 q1
  try simp -implicitDefEqProofs only [go_sem] at w2
  cases h
  simp -implicitDefEqProofs only [go_sem, Nat.reduceLT, Nat.reduceAdd, Nat.reduceMul, Nat.reduceEqDiff, Nat.reduceLeDiff, reduceCtorEq, ↓reduceIte, i45, c45, w2]
-- f16 impl.GoodPolicy
theorem call16 (args : List AV) (S : St) : evCall T (evFL T) 16 args S = lendC (evFL T 16) S (lendAll S [[5, 0]] args) := evCall0 fn16 rfl rfl rfl args S
theorem callz16 (args : List AV) (S : St) : evCallFz T (evFL T) 16 args S = lendZ (evFL T 16) S [[0]] (lendAll S [[5, 0]] args) := evCallFz0 fn16 rfl rfl rfl args S
theorem calls16 (args : List AV) (S : St) : evCall (T.at true) (evFL T) 16 args S = lendC (evFL T 16) S (lendAll S [[5, 0]] args) := evCall0 fns16 rfl rfl rfl args S
theorem callsz16 (args : List AV) (S : St) : evCallFz (T.at true) (evFL T) 16 args S = lendZ (evFL T 16) S [[0]] (lendAll S [[5, 0]] args) := evCallFz0 fns16 rfl rfl rfl args S
attribute [go_sem] call16 callz16 calls16 callsz16
noncomputable def X16_1 (a0 : Policy) (o : Bool) : Ex × Fr × St :=
  (.normal, frOf 13 (upd anyF 2 (.bool o)), [])
theorem e16_1 (a0 : Policy) (o : Bool) (h : m16_1 a0 = some o) : evCL T 0 k16_1 (frOf 13 (upd anyF 1 (.ptr 0 0 0))) [some ⟨.box, 2, [[.ts .imm 5 (a0.terms.map (encTerm .imm)), .bool a0.accept]]⟩] = some (X16_1 a0 o) := by
  unfold m16_1 at h
  try simp -implicitDefEqProofs only [go_sem, Nat.reduceLT, Nat.reduceAdd, Nat.reduceMul, Nat.reduceEqDiff, Nat.reduceLeDiff, reduceCtorEq, ↓reduceIte, X16_1, k16_1]
  cases b1 : (leI (↑a0.terms.length : Int) 8 : Bool)
  · replace h := br_f b1 h
    cases h
    simp -implicitDefEqProofs only [go_sem, Nat.reduceLT, Nat.reduceAdd, Nat.reduceMul, Nat.reduceEqDiff, Nat.reduceLeDiff, reduceCtorEq, ↓reduceIte, X16_1, k16_1, b1]
  · replace h := br_t b1 h
    obtain ⟨r4, q2, h⟩ := bnd_some h
    have w3 := e44 a0.terms (fun y0 => m45 y0) 45 [] ⟨⟨fun S => by simp -implicitDefEqProofs only [go_sem, Nat.reduceLT, Nat.reduceAdd, Nat.reduceMul, Nat.reduceEqDiff, Nat.reduceLeDiff, reduceCtorEq, ↓reduceIte], fun _ _ _ _ _ _ => by simp -implicitDefEqProofs only [go_sem, Nat.reduceLT, Nat.reduceAdd, Nat.reduceMul, Nat.reduceEqDiff, Nat.reduceLeDiff, reduceCtorEq, ↓reduceIte]⟩, fun y0 r h => ⟨fun S => by simp -implicitDefEqProofs only [go_sem, Nat.reduceLT, Nat.reduceAdd, Nat.reduceMul, Nat.reduceEqDiff, Nat.reduceLeDiff, reduceCtorEq, ↓reduceIte, e45 y0 r h], fun S => by simp -implicitDefEqProofs only [go_sem, Nat.reduceLT, Nat.reduceAdd, Nat.reduceMul, Nat.reduceEqDiff, Nat.reduceLeDiff, reduceCtorEq, ↓reduceIte, e45 y0 r h]⟩⟩ r4 q2
    try simp -implicitDefEqProofs only [go_sem] at w3
    cases h
    simp -implicitDefEqProofs only [go_sem, Nat.reduceLT, Nat.reduceAdd, Nat.reduceMul, Nat.reduceEqDiff, Nat.reduceLeDiff, reduceCtorEq, ↓reduceIte, X16_1, k16_1, b1, w3]
theorem e16 (a0 : Policy) (r : Bool) (h : m16 a0 = some r) : evFL T 16 [.agg [.ts .imm 5 (a0.terms.map (encTerm .imm)), .bool a0.accept]] [] = some (.bool r, []) := by
  unfold m16 at h
  rw [evFL_at fn16 (Nat.le_of_ble_eq_true rfl) rfl (.inr rfl) ⟨rfl, rfl⟩]
  obtain ⟨v7, q5, h⟩ := bnd_some h
  have w6 := e16_1 a0 v7 q5
  simp only [X16_1] at w6
  try simp -implicitDefEqProofs only [go_sem] at w6
  cases h
  simp -implicitDefEqProofs only [go_sem, Nat.reduceLT, Nat.reduceAdd, Nat.reduceMul, Nat.reduceEqDiff, Nat.reduceLeDiff, reduceCtorEq, ↓reduceIte, i16, c16, w6]
-- f55 impl.ThenPolicy$1
theorem call55 (args : List AV) (S : St) : evCall T (evFL T) 55 args S = lendC (evFL T 55) S (lendAll S [[4, 2, 0, 2, 0]] args) := evCall0 fn55 rfl rfl rfl args S
theorem callz55 (args : List AV) (S : St) : evCallFz T (evFL T) 55 args S = lendZ (evFL T 55) S [[0]] (lendAll S [[4, 2, 0, 2, 0]] args) := evCallFz0 fn55 rfl rfl rfl args S
theorem calls55 (args : List AV) (S : St) : evCall (T.at true) (evFL T) 55 args S = lendC (evFL T 55) S (lendAll S [[4, 2, 0, 2, 0]] args) := evCall0 fns55 rfl rfl rfl args S
theorem callsz55 (args : List AV) (S : St) : evCallFz (T.at true) (evFL T) 55 args S = lendZ (evFL T 55) S [[0]] (lendAll S [[4, 2, 0, 2, 0]] args) := evCallFz0 fns55 rfl rfl rfl args S
attribute [go_sem] call55 callz55 calls55 callsz55
theorem e55 (a0 : Term) (r : Bool) (h : m55 a0 = some r) : evFL T 55 [.agg [.ts .imm 4 (a0.ranges.map encRange), .ts .imm 2 (a0.path.map encReCell), .int .i64 a0.comm, .ts .imm 2 (a0.acts.map encAcn), .int .i64 a0.verdict]] [] = some (.bool r, []) := by
  unfold m55 at h
  rw [evFL_at fn55 (Nat.le_of_ble_eq_true rfl) rfl (.inr rfl) ⟨rfl, rfl⟩]
  cases h
  simp -implicitDefEqProofs only [go_sem, Nat.reduceLT, Nat.reduceAdd, Nat.reduceMul, Nat.reduceEqDiff, Nat.reduceLeDiff, reduceCtorEq, ↓reduceIte, i55, c55]
-- f99 slices.Clone[[]impl.Range,impl.Range]
theorem call99 (args : List AV) (S : St) : evCall T (evFL T) 99 args S = lendC (evFL T 99) S (lendAll S [[4]] args) := evCall0 fn99 rfl rfl rfl args S
theorem callz99 (args : List AV) (S : St) : evCallFz T (evFL T) 99 args S = lendZ (evFL T 99) S [[4]] (lendAll S [[4]] args) := evCallFz0 fn99 rfl rfl rfl args S
theorem calls99 (args : List AV) (S : St) : evCall (T.at true) (evFL T) 99 args S = lendC (evFL T 99) S (lendAll S [[4]] args) := evCall0 fns99 rfl rfl rfl args S
theorem callsz99 (args : List AV) (S : St) : evCallFz (T.at true) (evFL T) 99 args S = lendZ (evFL T 99) S [[4]] (lendAll S [[4]] args) := evCallFz0 fns99 rfl rfl rfl args S
attribute [go_sem] call99 callz99 calls99 callsz99
theorem e99 (a0 : (List Range)) (r : (List Range)) (h : m99 a0 = some r) : evFL T 99 [.ts .imm 4 (a0.map encRange)] [] = some (.sl 0 0 r.length, [some ⟨.arr, 4, r.map encRange⟩]) := by
  unfold m99 at h
  rw [evFL_at fn99 (Nat.le_of_ble_eq_true rfl) rfl (.inr rfl) ⟨rfl, rfl⟩]
  cases a0 with
  | nil =>
      obtain ⟨g1, h⟩ := ck_some h
      try simp -implicitDefEqProofs only [go_sem] at g1
      cases h
      simp -implicitDefEqProofs only [go_sem, Nat.reduceLT, Nat.reduceAdd, Nat.reduceMul, Nat.reduceEqDiff, Nat.reduceLeDiff, reduceCtorEq, ↓reduceIte, i99, c99, g1]
  | cons y ys =>
      obtain ⟨g1, h⟩ := ck_some h
      try simp -implicitDefEqProofs only [go_sem] at g1
      cases h
      simp -implicitDefEqProofs only [go_sem, Nat.reduceLT, Nat.reduceAdd, Nat.reduceMul, Nat.reduceEqDiff, Nat.reduceLeDiff, reduceCtorEq, ↓reduceIte, i99, c99, g1]
-- f100 slices.Clone[[]impl.ReCell,impl.ReCell]
theorem call100 (args : List AV) (S : St) : evCall T (evFL T) 100 args S = lendC (evFL T 100) S (lendAll S [[2]] args) := evCall0 fn100 rfl rfl rfl args S
theorem callz100 (args : List AV) (S : St) : evCallFz T (evFL T) 100 args S = lendZ (evFL T 100) S [[2]] (lendAll S [[2]] args) := evCallFz0 fn100 rfl rfl rfl args S
theorem calls100 (args : List AV) (S : St) : evCall (T.at true) (evFL T) 100 args S = lendC (evFL T 100) S (lendAll S [[2]] args) := evCall0 fns100 rfl rfl rfl args S
theorem callsz100 (args : List AV) (S : St) : evCallFz (T.at true) (evFL T) 100 args S = lendZ (evFL T 100) S [[2]] (lendAll S [[2]] args) := evCallFz0 fns100 rfl rfl rfl args S
attribute [go_sem] call100 callz100 calls100 callsz100
theorem e100 (a0 : (List ReCell)) (r : (List ReCell)) (h : m100 a0 = some r) : evFL T 100 [.ts .imm 2 (a0.map encReCell)] [] = some (.sl 0 0 r.length, [some ⟨.arr, 2, r.map encReCell⟩]) := by
  unfold m100 at h
  rw [evFL_at fn100 (Nat.le_of_ble_eq_true rfl) rfl (.inr rfl) ⟨rfl, rfl⟩]
  cases a0 with
  | nil =>
      obtain ⟨g1, h⟩ := ck_some h
      try simp -implicitDefEqProofs only [go_sem] at g1
      cases h
      simp -implicitDefEqProofs only [go_sem, Nat.reduceLT, Nat.reduceAdd, Nat.reduceMul, Nat.reduceEqDiff, Nat.reduceLeDiff, reduceCtorEq, ↓reduceIte, i100, c100, g1]
  | cons y ys =>
      obtain ⟨g1, h⟩ := ck_some h
      try simp -implicitDefEqProofs only [go_sem] at g1
      cases h
      simp -implicitDefEqProofs only [go_sem, Nat.reduceLT, Nat.reduceAdd, Nat.reduceMul, Nat.reduceEqDiff, Nat.reduceLeDiff, reduceCtorEq, ↓reduceIte, i100, c100, g1]
-- f101 slices.Clone[[]impl.Act,impl.Act]
theorem call101 (args : List AV) (S : St) : evCall T (evFL T) 101 args S = lendC (evFL T 101) S (lendAll S [[2]] args) := evCall0 fn101 rfl rfl rfl args S
theorem callz101 (args : List AV) (S : St) : evCallFz T (evFL T) 101 args S = lendZ (evFL T 101) S [[2]] (lendAll S [[2]] args) := evCallFz0 fn101 rfl rfl rfl args S
theorem calls101 (args : List AV) (S : St) : evCall (T.at true) (evFL T) 101 args S = lendC (evFL T 101) S (lendAll S [[2]] args) := evCall0 fns101 rfl rfl rfl args S
theorem callsz101 (args : List AV) (S : St) : evCallFz (T.at true) (evFL T) 101 args S = lendZ (evFL T 101) S [[2]] (lendAll S [[2]] args) := evCallFz0 fns101 rfl rfl rfl args S
attribute [go_sem] call101 callz101 calls101 callsz101
theorem e101 (a0 : (List Acn)) (r : (List Acn)) (h : m101 a0 = some r) : evFL T 101 [.ts .imm 2 (a0.map encAcn)] [] = some (.sl 0 0 r.length, [some ⟨.arr, 2, r.map encAcn⟩]) := by
  unfold m101 at h
  rw [evFL_at fn101 (Nat.le_of_ble_eq_true rfl) rfl (.inr rfl) ⟨rfl, rfl⟩]
  cases a0 with
  | nil =>
      obtain ⟨g1, h⟩ := ck_some h
      try simp -implicitDefEqProofs only [go_sem] at g1
      cases h
      simp -implicitDefEqProofs only [go_sem, Nat.reduceLT, Nat.reduceAdd, Nat.reduceMul, Nat.reduceEqDiff, Nat.reduceLeDiff, reduceCtorEq, ↓reduceIte, i101, c101, g1]
  | cons y ys =>
      obtain ⟨g1, h⟩ := ck_some h
      try simp -implicitDefEqProofs only [go_sem] at g1
      cases h
      simp -implicitDefEqProofs only [go_sem, Nat.reduceLT, Nat.reduceAdd, Nat.reduceMul, Nat.reduceEqDiff, Nat.reduceLeDiff, reduceCtorEq, ↓reduceIte, i101, c101, g1]
-- f56 impl.ownTerms
theorem call56 (args : List AV) (S : St) : evCall T (evFL T) 56 args S = lendC (evFL T 56) S (lendAll S [[5]] args) := evCall0 fn56 rfl rfl rfl args S
theorem callz56 (args : List AV) (S : St) : evCallFz T (evFL T) 56 args S = lendZ (evFL T 56) S [[5]] (lendAll S [[5]] args) := evCallFz0 fn56 rfl rfl rfl args S
theorem calls56 (args : List AV) (S : St) : evCall (T.at true) (evFL T) 56 args S = lendC (evFL T 56) S (lendAll S [[5]] args) := evCall0 fns56 rfl rfl rfl args S
theorem callsz56 (args : List AV) (S : St) : evCallFz (T.at true) (evFL T) 56 args S = lendZ (evFL T 56) S [[5]] (lendAll S [[5]] args) := evCallFz0 fns56 rfl rfl rfl args S
attribute [go_sem] call56 callz56 calls56 callsz56
noncomputable def X56_1 (a0 : (List Term)) (p1 : Int) (o : (List Term)) : Ex × Fr × St :=
  (.exit 0, frOf 31 (upd anyF 3 (.sl 0 0 o.length)), [some ⟨.arr, 5, o.map (encTerm .own)⟩])
noncomputable def E56_1 (a0 : (List Term)) (p1 : Int) (s : (Int × List Term)) : Fr × St := (frOf 31 (upd (upd (upd (upd anyF 3 (.sl 0 0 s.2.length)) 7 (.ts .imm 5 (a0.map (encTerm .imm)))) 8 (.int .i64 p1)) 9 (.int .i64 s.1)), [some ⟨.arr, 5, s.2.map (encTerm .own)⟩])
theorem b56_1 (a0 : (List Term)) (p1 : Int) (s : (Int × List Term)) (o : Ctl (Int × List Term) (List Term)) (h : m56_1b a0 p1 s = some o) : evCL T 0 k56_1b (E56_1 a0 p1 s).1 (E56_1 a0 p1 s).2 = some (ctlX (E56_1 a0 p1) (X56_1 a0 p1) o) := by
  unfold m56_1b at h
  obtain ⟨s17, s18⟩ := s
  replace h := sel2_some h
  try simp -implicitDefEqProofs only [go_sem, Nat.reduceLT, Nat.reduceAdd, Nat.reduceMul, Nat.reduceEqDiff, Nat.reduceLeDiff, reduceCtorEq, ↓reduceIte, E56_1, X56_1, k56_1b]
  cases b19 : (ltI s17 p1 : Bool)
  · replace h := br_f b19 h
    cases h
    simp -implicitDefEqProofs only [go_sem, Nat.reduceLT, Nat.reduceAdd, Nat.reduceMul, Nat.reduceEqDiff, Nat.reduceLeDiff, reduceCtorEq, ↓reduceIte, E56_1, X56_1, k56_1b, b19]
  · replace h := br_t b19 h
    obtain ⟨x20, q21, h⟩ := bnd_some h
    obtain ⟨g22, g23, g24⟩ := idx_row (encTerm .imm) q21
    try simp -implicitDefEqProofs only [go_sem] at g23
    try simp -implicitDefEqProofs only [go_sem] at g24
    obtain ⟨r27, q25, h⟩ := bnd_some h
    have w26 := e99 x20.ranges r27 q25
    try simp -implicitDefEqProofs only [go_sem] at w26
    obtain ⟨r30, q28, h⟩ := bnd_some h
    have w29 := e100 x20.path r30 q28
    try simp -implicitDefEqProofs only [go_sem] at w29
    obtain ⟨r33, q31, h⟩ := bnd_some h
    have w32 := e101 x20.acts r33 q31
    try simp -implicitDefEqProofs only [go_sem] at w32
    obtain ⟨g34, h⟩ := ck_some h
    try simp -implicitDefEqProofs only [go_sem] at g34
    cases h
    simp -implicitDefEqProofs only [go_sem, Nat.reduceLT, Nat.reduceAdd, Nat.reduceMul, Nat.reduceEqDiff, Nat.reduceLeDiff, reduceCtorEq, ↓reduceIte, E56_1, X56_1, k56_1b, b19, g22, g23, g24, w26, w29, w32, g34]
theorem e56_1 (a0 : (List Term)) (p1 : Int) (s : (Int × List Term)) (o : (List Term)) (h : loopP (m56_1b a0 p1) s = some o) : evCL T 0 (.loop k56_1b) (E56_1 a0 p1 s).1 (E56_1 a0 p1 s).2 = some (X56_1 a0 p1 o) :=
  loop_walk (E := E56_1 a0 p1) (X := X56_1 a0 p1) (by intro b; (simp only [X56_1]; nofun)) (b56_1 a0 p1) s o h
theorem e56 (a0 : (List Term)) (r : (List Term)) (h : m56 a0 = some r) : evFL T 56 [.ts .imm 5 (a0.map (encTerm .imm))] [] = some (.sl 0 0 r.length, [some ⟨.arr, 5, r.map (encTerm .own)⟩]) := by
  unfold m56 at h
  rw [evFL_at fn56 (Nat.le_of_ble_eq_true rfl) rfl (.inr rfl) ⟨rfl, rfl⟩]
  obtain ⟨v37, q35, h⟩ := bnd_some h
  have w36 := e56_1 a0 (↑a0.length : Int) (0, []) v37 q35
  simp only [E56_1, X56_1] at w36
  try simp -implicitDefEqProofs only [go_sem] at w36
  cases h
  simp -implicitDefEqProofs only [go_sem, Nat.reduceLT, Nat.reduceAdd, Nat.reduceMul, Nat.reduceEqDiff, Nat.reduceLeDiff, reduceCtorEq, ↓reduceIte, i56, c56, w36]
-- f24 impl.ThenPolicy
theorem call24 (args : List AV) (S : St) : evCall T (evFL T) 24 args S = lendC (evFL T 24) S (lendAll S [[5, 0], [5, 0]] args) := evCall0 fn24 rfl rfl rfl args S
theorem callz24 (args : List AV) (S : St) : evCallFz T (evFL T) 24 args S = lendZ (evFL T 24) S [[5, 0], [0]] (lendAll S [[5, 0], [5, 0]] args) := evCallFz0 fn24 rfl rfl rfl args S
theorem calls24 (args : List AV) (S : St) : evCall (T.at true) (evFL T) 24 args S = lendC (evFL T 24) S (lendAll S [[5, 0], [5, 0]] args) := evCall0 fns24 rfl rfl rfl args S
theorem callsz24 (args : List AV) (S : St) : evCallFz (T.at true) (evFL T) 24 args S = lendZ (evFL T 24) S [[5, 0], [0]] (lendAll S [[5, 0], [5, 0]] args) := evCallFz0 fns24 rfl rfl rfl args S
attribute [go_sem] call24 callz24 calls24 callsz24
noncomputable def X24_1 (a0 : Policy) (a1 : Policy) (o : Bool) : Ex × Fr × St :=
  (.normal, frOf 44 (upd (upd (upd (upd anyF 2 (.ptr 0 0 0)) 3 (.ptr 1 0 0)) 4 (.ptr 2 0 0)) 28 (.bool o)), [some ⟨.box, 2, [[.ts .imm 5 (a0.terms.map (encTerm .imm)), .bool a0.accept]]⟩, some ⟨.box, 2, [[.ts .imm 5 (a1.terms.map (encTerm .imm)), .bool a1.accept]]⟩, some ⟨.box, 2, [[.sl 3 0 0, .bool false]]⟩, some ⟨.arr, 5, []⟩])
theorem e24_1 (a0 : Policy) (a1 : Policy) (o : Bool) (h : m24_1 a0 a1 = some o) : evCL T 0 k24_1 (frOf 44 (upd (upd (upd anyF 2 (.ptr 0 0 0)) 3 (.ptr 1 0 0)) 4 (.ptr 2 0 0))) [some ⟨.box, 2, [[.ts .imm 5 (a0.terms.map (encTerm .imm)), .bool a0.accept]]⟩, some ⟨.box, 2, [[.ts .imm 5 (a1.terms.map (encTerm .imm)), .bool a1.accept]]⟩, some ⟨.box, 2, [[.sl 3 0 0, .bool false]]⟩, some ⟨.arr, 5, []⟩] = some (X24_1 a0 a1 o) := by
  unfold m24_1 at h
  obtain ⟨r3, q1, h⟩ := bnd_some h
  have w2 := e16 a0 r3 q1
  try simp -implicitDefEqProofs only [go_sem] at w2
  try simp -implicitDefEqProofs only [go_sem, Nat.reduceLT, Nat.reduceAdd, Nat.reduceSub, Nat.reduceMul, Nat.reduceEqDiff, Nat.reduceBEq, Nat.reduceLeDiff, Int.reduceToNat, Int.reduceLT, Int.reduceLE, Int.reduceEq, reduceCtorEq, ↓reduceIte, X24_1, k24_1, w2]
  cases b4 : (r3 : Bool)
  · replace h := br_f b4 h
    cases h
    simp -implicitDefEqProofs only [go_sem, Nat.reduceLT, Nat.reduceAdd, Nat.reduceSub, Nat.reduceMul, Nat.reduceEqDiff, Nat.reduceBEq, Nat.reduceLeDiff, Int.reduceToNat, Int.reduceLT, Int.reduceLE, Int.reduceEq, reduceCtorEq, ↓reduceIte, X24_1, k24_1, w2, b4]
  · replace h := br_t b4 h
    obtain ⟨r7, q5, h⟩ := bnd_some h
    have w6 := e16 a1 r7 q5
    try simp -implicitDefEqProofs only [go_sem] at w6
    try simp -implicitDefEqProofs only [go_sem, Nat.reduceLT, Nat.reduceAdd, Nat.reduceSub, Nat.reduceMul, Nat.reduceEqDiff, Nat.reduceBEq, Nat.reduceLeDiff, Int.reduceToNat, Int.reduceLT, Int.reduceLE, Int.reduceEq, reduceCtorEq, ↓reduceIte, X24_1, k24_1, w2, b4, w6]
    cases b8 : (r7 : Bool)
    · replace h := br_f b8 h
      cases h
      simp -implicitDefEqProofs only [go_sem, Nat.reduceLT, Nat.reduceAdd, Nat.reduceSub, Nat.reduceMul, Nat.reduceEqDiff, Nat.reduceBEq, Nat.reduceLeDiff, Int.reduceToNat, Int.reduceLT, Int.reduceLE, Int.reduceEq, reduceCtorEq, ↓reduceIte, X24_1, k24_1, w2, b4, w6, b8]
    · replace h := br_t b8 h
      try simp -implicitDefEqProofs only [go_sem, Nat.reduceLT, Nat.reduceAdd, Nat.reduceSub, Nat.reduceMul, Nat.reduceEqDiff, Nat.reduceBEq, Nat.reduceLeDiff, Int.reduceToNat, Int.reduceLT, Int.reduceLE, Int.reduceEq, reduceCtorEq, ↓reduceIte, X24_1, k24_1, w2, b4, w6, b8]
      cases b9 : (a0.accept : Bool)
      · replace h := br_f b9 h
        cases h
        simp -implicitDefEqProofs only [go_sem, Nat.reduceLT, Nat.reduceAdd, Nat.reduceSub, Nat.reduceMul, Nat.reduceEqDiff, Nat.reduceBEq, Nat.reduceLeDiff, Int.reduceToNat, Int.reduceLT, Int.reduceLE, Int.reduceEq, reduceCtorEq, ↓reduceIte, X24_1, k24_1, w2, b4, w6, b8, b9]
      · replace h := br_t b9 h
        cases h
        simp -implicitDefEqProofs only [go_sem, Nat.reduceLT, Nat.reduceAdd, Nat.reduceSub, Nat.reduceMul, Nat.reduceEqDiff, Nat.reduceBEq, Nat.reduceLeDiff, Int.reduceToNat, Int.reduceLT, Int.reduceLE, Int.reduceEq, reduceCtorEq, ↓reduceIte, X24_1, k24_1, w2, b4, w6, b8, b9]
theorem e24 (a0 : Policy) (a1 : Policy) (r : (Policy × Bool)) (h : m24 a0 a1 = some r) : evFL T 24 [.agg [.ts .imm 5 (a0.terms.map (encTerm .imm)), .bool a0.accept], .agg [.ts .imm 5 (a1.terms.map (encTerm .imm)), .bool a1.accept]] [] = some (.tup [.agg [.sl 0 0 r.1.terms.length, .bool r.1.accept], .bool r.2], [some ⟨.arr, 5, r.1.terms.map (encTerm .own)⟩]) := by
  unfold m24 at h
  rw [evFL_at fn24 (Nat.le_of_ble_eq_true rfl) rfl (.inr rfl) ⟨rfl, rfl⟩]
  obtain ⟨v12, q10, h⟩ := bnd_some h
  have w11 := e24_1 a0 a1 v12 q10
  simp only [X24_1] at w11
  try simp -implicitDefEqProofs only [go_sem] at w11
  try simp -implicitDefEqProofs only [go_sem, Nat.reduceLT, Nat.reduceAdd, Nat.reduceSub, Nat.reduceMul, Nat.reduceEqDiff, Nat.reduceBEq, Nat.reduceLeDiff, Int.reduceToNat, Int.reduceLT, Int.reduceLE, Int.reduceEq, reduceCtorEq, ↓reduceIte, i24, c24, w11]
  cases b13 : (v12 : Bool)
  · replace h := br_f b13 h
    obtain ⟨r16, q14, h⟩ := bnd_some h
    have w15 := e44 a0.terms (fun y0 => m55 y0) 55 [] ⟨⟨fun S => by simp -implicitDefEqProofs only [go_sem, Nat.reduceLT, Nat.reduceAdd, Nat.reduceMul, Nat.reduceEqDiff, Nat.reduceLeDiff, reduceCtorEq, ↓reduceIte], fun _ _ _ _ _ _ => by simp -implicitDefEqProofs only [go_sem, Nat.reduceLT, Nat.reduceAdd, Nat.reduceMul, Nat.reduceEqDiff, Nat.reduceLeDiff, reduceCtorEq, ↓reduceIte]⟩, fun y0 r h => ⟨fun S => by simp -implicitDefEqProofs only [go_sem, Nat.reduceLT, Nat.reduceAdd, Nat.reduceMul, Nat.reduceEqDiff, Nat.reduceLeDiff, reduceCtorEq, ↓reduceIte, e55 y0 r h], fun S => by simp -implicitDefEqProofs only [go_sem, Nat.reduceLT, Nat.reduceAdd, Nat.reduceMul, Nat.reduceEqDiff, Nat.reduceLeDiff, reduceCtorEq, ↓reduceIte, e55 y0 r h]⟩⟩ r16 q14
    try simp -implicitDefEqProofs only [go_sem] at w15
    try simp -implicitDefEqProofs only [go_sem, Nat.reduceLT, Nat.reduceAdd, Nat.reduceSub, Nat.reduceMul, Nat.reduceEqDiff, Nat.reduceBEq, Nat.reduceLeDiff, Int.reduceToNat, Int.reduceLT, Int.reduceLE, Int.reduceEq, reduceCtorEq, ↓reduceIte, i24, c24, w11, b13, w15]
    cases b17 : (r16 : Bool)
    · replace h := br_f b17 h
      obtain ⟨r20, q18, h⟩ := bnd_some h
      have w19 := e56 a0.terms r20 q18
      try simp -implicitDefEqProofs only [go_sem] at w19
      obtain ⟨r23, q21, h⟩ := bnd_some h
      have w22 := e56 a1.terms r23 q21
      try simp -implicitDefEqProofs only [go_sem] at w22
      obtain ⟨g24, h⟩ := ck_some h
      try simp -implicitDefEqProofs only [go_sem] at g24
      cases h
      simp -implicitDefEqProofs only [go_sem, Nat.reduceLT, Nat.reduceAdd, Nat.reduceSub, Nat.reduceMul, Nat.reduceEqDiff, Nat.reduceBEq, Nat.reduceLeDiff, Int.reduceToNat, Int.reduceLT, Int.reduceLE, Int.reduceEq, reduceCtorEq, ↓reduceIte, i24, c24, w11, b13, w15, b17, w19, w22, g24]
    · replace h := br_t b17 h
      cases h
      simp -implicitDefEqProofs only [go_sem, Nat.reduceLT, Nat.reduceAdd, Nat.reduceSub, Nat.reduceMul, Nat.reduceEqDiff, Nat.reduceBEq, Nat.reduceLeDiff, Int.reduceToNat, Int.reduceLT, Int.reduceLE, Int.reduceEq, reduceCtorEq, ↓reduceIte, i24, c24, w11, b13, w15, b17]
  · replace h := br_t b13 h
    cases h
    simp -implicitDefEqProofs only [go_sem, Nat.reduceLT, Nat.reduceAdd, Nat.reduceSub, Nat.reduceMul, Nat.reduceEqDiff, Nat.reduceBEq, Nat.reduceLeDiff, Int.reduceToNat, Int.reduceLT, Int.reduceLE, Int.reduceEq, reduceCtorEq, ↓reduceIte, i24, c24, w11, b13]
-- f39 laws.eqPrefix
theorem call39 (args : List AV) (S : St) : evCall T (evFL T) 39 args S = lendC (evFL T 39) S (lendAll S [[0, 0], [0, 0]] args) := evCall0 fn39 rfl rfl rfl args S
theorem callz39 (args : List AV) (S : St) : evCallFz T (evFL T) 39 args S = lendZ (evFL T 39) S [[0]] (lendAll S [[0, 0], [0, 0]] args) := evCallFz0 fn39 rfl rfl rfl args S
theorem calls39 (args : List AV) (S : St) : evCall (T.at true) (evFL T) 39 args S = lendC (evFL T 39) S (lendAll S [[0, 0], [0, 0]] args) := evCall0 fns39 rfl rfl rfl args S
theorem callsz39 (args : List AV) (S : St) : evCallFz (T.at true) (evFL T) 39 args S = lendZ (evFL T 39) S [[0]] (lendAll S [[0, 0], [0, 0]] args) := evCallFz0 fns39 rfl rfl rfl args S
attribute [go_sem] call39 callz39 calls39 callsz39
theorem e39 (a0 : Prefix) (a1 : Prefix) (r : Bool) (h : m39 a0 a1 = some r) : evFL T 39 [.agg [.int .i64 a0.addr, .int .i64 a0.len], .agg [.int .i64 a1.addr, .int .i64 a1.len]] [] = some (.bool r, []) := by
  unfold m39 at h
  rw [evFL_at fn39 (Nat.le_of_ble_eq_true rfl) rfl (.inr rfl) ⟨rfl, rfl⟩]
  try simp -implicitDefEqProofs only [go_sem, Nat.reduceLT, Nat.reduceAdd, Nat.reduceMul, Nat.reduceEqDiff, Nat.reduceLeDiff, reduceCtorEq, ↓reduceIte, i39, c39]
  cases b1 : (eqI a0.addr a1.addr : Bool)
  · replace h := br_f b1 h
    cases h
    simp -implicitDefEqProofs only [go_sem, Nat.reduceLT, Nat.reduceAdd, Nat.reduceMul, Nat.reduceEqDiff, Nat.reduceLeDiff, reduceCtorEq, ↓reduceIte, i39, c39, b1]
  · replace h := br_t b1 h
    try simp -implicitDefEqProofs only [go_sem, Nat.reduceLT, Nat.reduceAdd, Nat.reduceMul, Nat.reduceEqDiff, Nat.reduceLeDiff, reduceCtorEq, ↓reduceIte, i39, c39, b1]
    cases b2 : (eqI a0.len a1.len : Bool)
    · replace h := br_f b2 h
      cases h
      simp -implicitDefEqProofs only [go_sem, Nat.reduceLT, Nat.reduceAdd, Nat.reduceMul, Nat.reduceEqDiff, Nat.reduceLeDiff, reduceCtorEq, ↓reduceIte, i39, c39, b1, b2]
    · replace h := br_t b2 h
      cases h
      simp -implicitDefEqProofs only [go_sem, Nat.reduceLT, Nat.reduceAdd, Nat.reduceMul, Nat.reduceEqDiff, Nat.reduceLeDiff, reduceCtorEq, ↓reduceIte, i39, c39, b1, b2]
-- f117 laws.eqRange
theorem call117 (args : List AV) (S : St) : evCall T (evFL T) 117 args S = lendC (evFL T 117) S (lendAll S [[0, 0, 0, 0], [0, 0, 0, 0]] args) := evCall0 fn117 rfl rfl rfl args S
theorem callz117 (args : List AV) (S : St) : evCallFz T (evFL T) 117 args S = lendZ (evFL T 117) S [[0]] (lendAll S [[0, 0, 0, 0], [0, 0, 0, 0]] args) := evCallFz0 fn117 rfl rfl rfl args S
theorem calls117 (args : List AV) (S : St) : evCall (T.at true) (evFL T) 117 args S = lendC (evFL T 117) S (lendAll S [[0, 0, 0, 0], [0, 0, 0, 0]] args) := evCall0 fns117 rfl rfl rfl args S
theorem callsz117 (args : List AV) (S : St) : evCallFz (T.at true) (evFL T) 117 args S = lendZ (evFL T 117) S [[0]] (lendAll S [[0, 0, 0, 0], [0, 0, 0, 0]] args) := evCallFz0 fns117 rfl rfl rfl args S
attribute [go_sem] call117 callz117 calls117 callsz117
theorem e117 (a0 : Range) (a1 : Range) (r : Bool) (h : m117 a0 a1 = some r) : evFL T 117 [.agg [.int .i64 a0.prefix_.addr, .int .i64 a0.prefix_.len, .int .i64 a0.lo, .int .i64 a0.hi], .agg [.int .i64 a1.prefix_.addr, .int .i64 a1.prefix_.len, .int .i64 a1.lo, .int .i64 a1.hi]] [] = some (.bool r, []) := by
  unfold m117 at h
  rw [evFL_at fn117 (Nat.le_of_ble_eq_true rfl) rfl (.inr rfl) ⟨rfl, rfl⟩]
  obtain ⟨r3, q1, h⟩ := bnd_some h
  have w2 := e39 a0.prefix_ a1.prefix_ r3 q1
  try simp -implicitDefEqProofs only [go_sem] at w2
  try simp -implicitDefEqProofs only [go_sem, Nat.reduceLT, Nat.reduceAdd, Nat.reduceMul, Nat.reduceEqDiff, Nat.reduceLeDiff, reduceCtorEq, ↓reduceIte, i117, c117, w2]
  cases b4 : (r3 : Bool)
  · replace h := br_f b4 h
    cases h
    simp -implicitDefEqProofs only [go_sem, Nat.reduceLT, Nat.reduceAdd, Nat.reduceMul, Nat.reduceEqDiff, Nat.reduceLeDiff, reduceCtorEq, ↓reduceIte, i117, c117, w2, b4]
  · replace h := br_t b4 h
    try simp -implicitDefEqProofs only [go_sem, Nat.reduceLT, Nat.reduceAdd, Nat.reduceMul, Nat.reduceEqDiff, Nat.reduceLeDiff, reduceCtorEq, ↓reduceIte, i117, c117, w2, b4]
    cases b5 : (eqI a0.lo a1.lo : Bool)
    · replace h := br_f b5 h
      cases h
      simp -implicitDefEqProofs only [go_sem, Nat.reduceLT, Nat.reduceAdd, Nat.reduceMul, Nat.reduceEqDiff, Nat.reduceLeDiff, reduceCtorEq, ↓reduceIte, i117, c117, w2, b4, b5]
    · replace h := br_t b5 h
      try simp -implicitDefEqProofs only [go_sem, Nat.reduceLT, Nat.reduceAdd, Nat.reduceMul, Nat.reduceEqDiff, Nat.reduceLeDiff, reduceCtorEq, ↓reduceIte, i117, c117, w2, b4, b5]
      cases b6 : (eqI a0.hi a1.hi : Bool)
      · replace h := br_f b6 h
        cases h
        simp -implicitDefEqProofs only [go_sem, Nat.reduceLT, Nat.reduceAdd, Nat.reduceMul, Nat.reduceEqDiff, Nat.reduceLeDiff, reduceCtorEq, ↓reduceIte, i117, c117, w2, b4, b5, b6]
      · replace h := br_t b6 h
        cases h
        simp -implicitDefEqProofs only [go_sem, Nat.reduceLT, Nat.reduceAdd, Nat.reduceMul, Nat.reduceEqDiff, Nat.reduceLeDiff, reduceCtorEq, ↓reduceIte, i117, c117, w2, b4, b5, b6]
-- f67 laws.eqRangeS
theorem call67 (args : List AV) (S : St) : evCall T (evFL T) 67 args S = lendC (evFL T 67) S (lendAll S [[4], [4]] args) := evCall0 fn67 rfl rfl rfl args S
theorem callz67 (args : List AV) (S : St) : evCallFz T (evFL T) 67 args S = lendZ (evFL T 67) S [[0]] (lendAll S [[4], [4]] args) := evCallFz0 fn67 rfl rfl rfl args S
theorem calls67 (args : List AV) (S : St) : evCall (T.at true) (evFL T) 67 args S = lendC (evFL T 67) S (lendAll S [[4], [4]] args) := evCall0 fns67 rfl rfl rfl args S
theorem callsz67 (args : List AV) (S : St) : evCallFz (T.at true) (evFL T) 67 args S = lendZ (evFL T 67) S [[0]] (lendAll S [[4], [4]] args) := evCallFz0 fns67 rfl rfl rfl args S
attribute [go_sem] call67 callz67 calls67 callsz67
noncomputable def X67_1 (a0 : (List Range)) (a1 : (List Range)) (o : (Unit ⊕ Unit)) : Ex × Fr × St :=
  match o with
  | .inl o => (.exit 0, frOf 27 (anyF), [])
  | .inr o => (.ret, frOf 27 (upd anyF 4 (.bool false)), [])
noncomputable def E67_1 (a0 : (List Range)) (a1 : (List Range)) (s : Int) : Fr × St := (frOf 27 (upd (upd (upd anyF 0 (.ts .imm 4 (a0.map encRange))) 1 (.ts .imm 4 (a1.map encRange))) 5 (.int .i64 s)), [])
theorem b67_1 (a0 : (List Range)) (a1 : (List Range)) (s : Int) (o : Ctl Int (Unit ⊕ Unit)) (h : m67_1b a0 a1 s = some o) : evCL T 0 k67_1b (E67_1 a0 a1 s).1 (E67_1 a0 a1 s).2 = some (ctlX (E67_1 a0 a1) (X67_1 a0 a1) o) := by
  unfold m67_1b at h
  revert h
  generalize s = s17
  intro h
  try simp -implicitDefEqProofs only [go_sem, Nat.reduceLT, Nat.reduceAdd, Nat.reduceMul, Nat.reduceEqDiff, Nat.reduceLeDiff, reduceCtorEq, ↓reduceIte, E67_1, X67_1, k67_1b]
  cases b18 : (ltI s17 (↑a0.length : Int) : Bool)
  · replace h := br_f b18 h
    cases h
    simp -implicitDefEqProofs only [go_sem, Nat.reduceLT, Nat.reduceAdd, Nat.reduceMul, Nat.reduceEqDiff, Nat.reduceLeDiff, reduceCtorEq, ↓reduceIte, E67_1, X67_1, k67_1b, b18]
  · replace h := br_t b18 h
    obtain ⟨x19, q20, h⟩ := bnd_some h
    obtain ⟨g21, g22, g23⟩ := idx_row encRange q20
    try simp -implicitDefEqProofs only [go_sem] at g22
    try simp -implicitDefEqProofs only [go_sem] at g23
    obtain ⟨x24, q25, h⟩ := bnd_some h
    obtain ⟨g26, g27, g28⟩ := idx_row encRange q25
    try simp -implicitDefEqProofs only [go_sem] at g27
    try simp -implicitDefEqProofs only [go_sem] at g28
    obtain ⟨r31, q29, h⟩ := bnd_some h
    have w30 := e117 x19 x24 r31 q29
    try simp -implicitDefEqProofs only [go_sem] at w30
    try simp -implicitDefEqProofs only [go_sem, Nat.reduceLT, Nat.reduceAdd, Nat.reduceMul, Nat.reduceEqDiff, Nat.reduceLeDiff, reduceCtorEq, ↓reduceIte, E67_1, X67_1, k67_1b, b18, g21, g22, g23, g26, g27, g28, w30]
    cases b32 : (r31 : Bool)
    · replace h := br_f b32 h
      cases h
      simp -implicitDefEqProofs only [go_sem, Nat.reduceLT, Nat.reduceAdd, Nat.reduceMul, Nat.reduceEqDiff, Nat.reduceLeDiff, reduceCtorEq, ↓reduceIte, E67_1, X67_1, k67_1b, b18, g21, g22, g23, g26, g27, g28, w30, b32]
    · replace h := br_t b32 h
      cases h
      simp -implicitDefEqProofs only [go_sem, Nat.reduceLT, Nat.reduceAdd, Nat.reduceMul, Nat.reduceEqDiff, Nat.reduceLeDiff, reduceCtorEq, ↓reduceIte, E67_1, X67_1, k67_1b, b18, g21, g22, g23, g26, g27, g28, w30, b32]
theorem e67_1 (a0 : (List Range)) (a1 : (List Range)) (s : Int) (o : (Unit ⊕ Unit)) (h : loopP (m67_1b a0 a1) s = some o) : evCL T 0 (.loop k67_1b) (E67_1 a0 a1 s).1 (E67_1 a0 a1 s).2 = some (X67_1 a0 a1 o) :=
  loop_walk (E := E67_1 a0 a1) (X := X67_1 a0 a1) (by intro b; rcases b with b | b <;> (simp only [X67_1]; nofun)) (b67_1 a0 a1) s o h
theorem e67 (a0 : (List Range)) (a1 : (List Range)) (r : Bool) (h : m67 a0 a1 = some r) : evFL T 67 [.ts .imm 4 (a0.map encRange), .ts .imm 4 (a1.map encRange)] [] = some (.bool r, []) := by
  unfold m67 at h
  rw [evFL_at fn67 (Nat.le_of_ble_eq_true rfl) rfl (.inr rfl) ⟨rfl, rfl⟩]
  try simp -implicitDefEqProofs only [go_sem, Nat.reduceLT, Nat.reduceAdd, Nat.reduceMul, Nat.reduceEqDiff, Nat.reduceLeDiff, reduceCtorEq, ↓reduceIte, i67, c67]
  cases b1 : (eqI (↑a0.length : Int) (↑a1.length : Int) : Bool)
  · replace h := br_f b1 h
    cases h
    simp -implicitDefEqProofs only [go_sem, Nat.reduceLT, Nat.reduceAdd, Nat.reduceMul, Nat.reduceEqDiff, Nat.reduceLeDiff, reduceCtorEq, ↓reduceIte, i67, c67, b1]
  · replace h := br_t b1 h
    try simp -implicitDefEqProofs only [go_sem, Nat.reduceLT, Nat.reduceAdd, Nat.reduceMul, Nat.reduceEqDiff, Nat.reduceLeDiff, reduceCtorEq, ↓reduceIte, i67, c67, b1]
    obtain ⟨o, q33, h⟩ := bnd_some h
    rcases o with ⟨⟩ | ⟨⟩
    · replace h := selS_l h
      have w34 := e67_1 a0 a1 0 (.inl ()) q33
      simp only [E67_1, X67_1] at w34
      try simp -implicitDefEqProofs only [go_sem] at w34
      cases h
      simp -implicitDefEqProofs only [go_sem, Nat.reduceLT, Nat.reduceAdd, Nat.reduceMul, Nat.reduceEqDiff, Nat.reduceLeDiff, reduceCtorEq, ↓reduceIte, i67, c67, b1, w34]
    · replace h := selS_r h
      have w34 := e67_1 a0 a1 0 (.inr ()) q33
      simp only [E67_1, X67_1] at w34
      try simp -implicitDefEqProofs only [go_sem] at w34
      cases h
      simp -implicitDefEqProofs only [go_sem, Nat.reduceLT, Nat.reduceAdd, Nat.reduceMul, Nat.reduceEqDiff, Nat.reduceLeDiff, reduceCtorEq, ↓reduceIte, i67, c67, b1, w34]
-- f118 laws.eqReCell
theorem call118 (args : List AV) (S : St) : evCall T (evFL T) 118 args S = lendC (evFL T 118) S (lendAll S [[0, 0], [0, 0]] args) := evCall0 fn118 rfl rfl rfl args S
theorem callz118 (args : List AV) (S : St) : evCallFz T (evFL T) 118 args S = lendZ (evFL T 118) S [[0]] (lendAll S [[0, 0], [0, 0]] args) := evCallFz0 fn118 rfl rfl rfl args S
theorem calls118 (args : List AV) (S : St) : evCall (T.at true) (evFL T) 118 args S = lendC (evFL T 118) S (lendAll S [[0, 0], [0, 0]] args) := evCall0 fns118 rfl rfl rfl args S
theorem callsz118 (args : List AV) (S : St) : evCallFz (T.at true) (evFL T) 118 args S = lendZ (evFL T 118) S [[0]] (lendAll S [[0, 0], [0, 0]] args) := evCallFz0 fns118 rfl rfl rfl args S
attribute [go_sem] call118 callz118 calls118 callsz118
theorem e118 (a0 : ReCell) (a1 : ReCell) (r : Bool) (h : m118 a0 a1 = some r) : evFL T 118 [.agg [.int .i64 a0.kind, .int .i64 a0.n], .agg [.int .i64 a1.kind, .int .i64 a1.n]] [] = some (.bool r, []) := by
  unfold m118 at h
  rw [evFL_at fn118 (Nat.le_of_ble_eq_true rfl) rfl (.inr rfl) ⟨rfl, rfl⟩]
  try simp -implicitDefEqProofs only [go_sem, Nat.reduceLT, Nat.reduceAdd, Nat.reduceMul, Nat.reduceEqDiff, Nat.reduceLeDiff, reduceCtorEq, ↓reduceIte, i118, c118]
  cases b1 : (eqI a0.kind a1.kind : Bool)
  · replace h := br_f b1 h
    cases h
    simp -implicitDefEqProofs only [go_sem, Nat.reduceLT, Nat.reduceAdd, Nat.reduceMul, Nat.reduceEqDiff, Nat.reduceLeDiff, reduceCtorEq, ↓reduceIte, i118, c118, b1]
  · replace h := br_t b1 h
    try simp -implicitDefEqProofs only [go_sem, Nat.reduceLT, Nat.reduceAdd, Nat.reduceMul, Nat.reduceEqDiff, Nat.reduceLeDiff, reduceCtorEq, ↓reduceIte, i118, c118, b1]
    cases b2 : (eqI a0.n a1.n : Bool)
    · replace h := br_f b2 h
      cases h
      simp -implicitDefEqProofs only [go_sem, Nat.reduceLT, Nat.reduceAdd, Nat.reduceMul, Nat.reduceEqDiff, Nat.reduceLeDiff, reduceCtorEq, ↓reduceIte, i118, c118, b1, b2]
    · replace h := br_t b2 h
      cases h
      simp -implicitDefEqProofs only [go_sem, Nat.reduceLT, Nat.reduceAdd, Nat.reduceMul, Nat.reduceEqDiff, Nat.reduceLeDiff, reduceCtorEq, ↓reduceIte, i118, c118, b1, b2]
-- f68 laws.eqReCellS
theorem call68 (args : List AV) (S : St) : evCall T (evFL T) 68 args S = lendC (evFL T 68) S (lendAll S [[2], [2]] args) := evCall0 fn68 rfl rfl rfl args S
theorem callz68 (args : List AV) (S : St) : evCallFz T (evFL T) 68 args S = lendZ (evFL T 68) S [[0]] (lendAll S [[2], [2]] args) := evCallFz0 fn68 rfl rfl rfl args S
theorem calls68 (args : List AV) (S : St) : evCall (T.at true) (evFL T) 68 args S = lendC (evFL T 68) S (lendAll S [[2], [2]] args) := evCall0 fns68 rfl rfl rfl args S
theorem callsz68 (args : List AV) (S : St) : evCallFz (T.at true) (evFL T) 68 args S = lendZ (evFL T 68) S [[0]] (lendAll S [[2], [2]] args) := evCallFz0 fns68 rfl rfl rfl args S
attribute [go_sem] call68 callz68 calls68 callsz68
noncomputable def X68_1 (a0 : (List ReCell)) (a1 : (List ReCell)) (o : (Unit ⊕ Unit)) : Ex × Fr × St :=
  match o with
  | .inl o => (.exit 0, frOf 27 (anyF), [])
  | .inr o => (.ret, frOf 27 (upd anyF 4 (.bool false)), [])
noncomputable def E68_1 (a0 : (List ReCell)) (a1 : (List ReCell)) (s : Int) : Fr × St := (frOf 27 (upd (upd (upd anyF 0 (.ts .imm 2 (a0.map encReCell))) 1 (.ts .imm 2 (a1.map encReCell))) 5 (.int .i64 s)), [])
theorem b68_1 (a0 : (List ReCell)) (a1 : (List ReCell)) (s : Int) (o : Ctl Int (Unit ⊕ Unit)) (h : m68_1b a0 a1 s = some o) : evCL T 0 k68_1b (E68_1 a0 a1 s).1 (E68_1 a0 a1 s).2 = some (ctlX (E68_1 a0 a1) (X68_1 a0 a1) o) := by
  unfold m68_1b at h
  revert h
  generalize s = s17
  intro h
  try simp -implicitDefEqProofs only [go_sem, Nat.reduceLT, Nat.reduceAdd, Nat.reduceMul, Nat.reduceEqDiff, Nat.reduceLeDiff, reduceCtorEq, ↓reduceIte, E68_1, X68_1, k68_1b]
  cases b18 : (ltI s17 (↑a0.length : Int) : Bool)
  · replace h := br_f b18 h
    cases h
    simp -implicitDefEqProofs only [go_sem, Nat.reduceLT, Nat.reduceAdd, Nat.reduceMul, Nat.reduceEqDiff, Nat.reduceLeDiff, reduceCtorEq, ↓reduceIte, E68_1, X68_1, k68_1b, b18]
  · replace h := br_t b18 h
    obtain ⟨x19, q20, h⟩ := bnd_some h
    obtain ⟨g21, g22, g23⟩ := idx_row encReCell q20
    try simp -implicitDefEqProofs only [go_sem] at g22
    try simp -implicitDefEqProofs only [go_sem] at g23
    obtain ⟨x24, q25, h⟩ := bnd_some h
    obtain ⟨g26, g27, g28⟩ := idx_row encReCell q25
    try simp -implicitDefEqProofs only [go_sem] at g27
    try simp -implicitDefEqProofs only [go_sem] at g28
    obtain ⟨r31, q29, h⟩ := bnd_some h
    have w30 := e118 x19 x24 r31 q29
    try simp -implicitDefEqProofs only [go_sem] at w30
    try simp -implicitDefEqProofs only [go_sem, Nat.reduceLT, Nat.reduceAdd, Nat.reduceMul, Nat.reduceEqDiff, Nat.reduceLeDiff, reduceCtorEq, ↓reduceIte, E68_1, X68_1, k68_1b, b18, g21, g22, g23, g26, g27, g28, w30]
    cases b32 : (r31 : Bool)
    · replace h := br_f b32 h
      cases h
      simp -implicitDefEqProofs only [go_sem, Nat.reduceLT, Nat.reduceAdd, Nat.reduceMul, Nat.reduceEqDiff, Nat.reduceLeDiff, reduceCtorEq, ↓reduceIte, E68_1, X68_1, k68_1b, b18, g21, g22, g23, g26, g27, g28, w30, b32]
    · replace h := br_t b32 h
      cases h
      simp -implicitDefEqProofs only [go_sem, Nat.reduceLT, Nat.reduceAdd, Nat.reduceMul, Nat.reduceEqDiff, Nat.reduceLeDiff, reduceCtorEq, ↓reduceIte, E68_1, X68_1, k68_1b, b18, g21, g22, g23, g26, g27, g28, w30, b32]
theorem e68_1 (a0 : (List ReCell)) (a1 : (List ReCell)) (s : Int) (o : (Unit ⊕ Unit)) (h : loopP (m68_1b a0 a1) s = some o) : evCL T 0 (.loop k68_1b) (E68_1 a0 a1 s).1 (E68_1 a0 a1 s).2 = some (X68_1 a0 a1 o) :=
  loop_walk (E := E68_1 a0 a1) (X := X68_1 a0 a1) (by intro b; rcases b with b | b <;> (simp only [X68_1]; nofun)) (b68_1 a0 a1) s o h
theorem e68 (a0 : (List ReCell)) (a1 : (List ReCell)) (r : Bool) (h : m68 a0 a1 = some r) : evFL T 68 [.ts .imm 2 (a0.map encReCell), .ts .imm 2 (a1.map encReCell)] [] = some (.bool r, []) := by
  unfold m68 at h
  rw [evFL_at fn68 (Nat.le_of_ble_eq_true rfl) rfl (.inr rfl) ⟨rfl, rfl⟩]
  try simp -implicitDefEqProofs only [go_sem, Nat.reduceLT, Nat.reduceAdd, Nat.reduceMul, Nat.reduceEqDiff, Nat.reduceLeDiff, reduceCtorEq, ↓reduceIte, i68, c68]
  cases b1 : (eqI (↑a0.length : Int) (↑a1.length : Int) : Bool)
  · replace h := br_f b1 h
    cases h
    simp -implicitDefEqProofs only [go_sem, Nat.reduceLT, Nat.reduceAdd, Nat.reduceMul, Nat.reduceEqDiff, Nat.reduceLeDiff, reduceCtorEq, ↓reduceIte, i68, c68, b1]
  · replace h := br_t b1 h
    try simp -implicitDefEqProofs only [go_sem, Nat.reduceLT, Nat.reduceAdd, Nat.reduceMul, Nat.reduceEqDiff, Nat.reduceLeDiff, reduceCtorEq, ↓reduceIte, i68, c68, b1]
    obtain ⟨o, q33, h⟩ := bnd_some h
    rcases o with ⟨⟩ | ⟨⟩
    · replace h := selS_l h
      have w34 := e68_1 a0 a1 0 (.inl ()) q33
      simp only [E68_1, X68_1] at w34
      try simp -implicitDefEqProofs only [go_sem] at w34
      cases h
      simp -implicitDefEqProofs only [go_sem, Nat.reduceLT, Nat.reduceAdd, Nat.reduceMul, Nat.reduceEqDiff, Nat.reduceLeDiff, reduceCtorEq, ↓reduceIte, i68, c68, b1, w34]
    · replace h := selS_r h
      have w34 := e68_1 a0 a1 0 (.inr ()) q33
      simp only [E68_1, X68_1] at w34
      try simp -implicitDefEqProofs only [go_sem] at w34
      cases h
      simp -implicitDefEqProofs only [go_sem, Nat.reduceLT, Nat.reduceAdd, Nat.reduceMul, Nat.reduceEqDiff, Nat.reduceLeDiff, reduceCtorEq, ↓reduceIte, i68, c68, b1, w34]
-- f119 laws.eqAct
theorem call119 (args : List AV) (S : St) : evCall T (evFL T) 119 args S = lendC (evFL T 119) S (lendAll S [[0, 0], [0, 0]] args) := evCall0 fn119 rfl rfl rfl args S
theorem callz119 (args : List AV) (S : St) : evCallFz T (evFL T) 119 args S = lendZ (evFL T 119) S [[0]] (lendAll S [[0, 0], [0, 0]] args) := evCallFz0 fn119 rfl rfl rfl args S
theorem calls119 (args : List AV) (S : St) : evCall (T.at true) (evFL T) 119 args S = lendC (evFL T 119) S (lendAll S [[0, 0], [0, 0]] args) := evCall0 fns119 rfl rfl rfl args S
theorem callsz119 (args : List AV) (S : St) : evCallFz (T.at true) (evFL T) 119 args S = lendZ (evFL T 119) S [[0]] (lendAll S [[0, 0], [0, 0]] args) := evCallFz0 fns119 rfl rfl rfl args S
attribute [go_sem] call119 callz119 calls119 callsz119
theorem e119 (a0 : Acn) (a1 : Acn) (r : Bool) (h : m119 a0 a1 = some r) : evFL T 119 [.agg [.int .i64 a0.kind, .int .i64 a0.n], .agg [.int .i64 a1.kind, .int .i64 a1.n]] [] = some (.bool r, []) := by
  unfold m119 at h
  rw [evFL_at fn119 (Nat.le_of_ble_eq_true rfl) rfl (.inr rfl) ⟨rfl, rfl⟩]
  try simp -implicitDefEqProofs only [go_sem, Nat.reduceLT, Nat.reduceAdd, Nat.reduceMul, Nat.reduceEqDiff, Nat.reduceLeDiff, reduceCtorEq, ↓reduceIte, i119, c119]
  cases b1 : (eqI a0.kind a1.kind : Bool)
  · replace h := br_f b1 h
    cases h
    simp -implicitDefEqProofs only [go_sem, Nat.reduceLT, Nat.reduceAdd, Nat.reduceMul, Nat.reduceEqDiff, Nat.reduceLeDiff, reduceCtorEq, ↓reduceIte, i119, c119, b1]
  · replace h := br_t b1 h
    try simp -implicitDefEqProofs only [go_sem, Nat.reduceLT, Nat.reduceAdd, Nat.reduceMul, Nat.reduceEqDiff, Nat.reduceLeDiff, reduceCtorEq, ↓reduceIte, i119, c119, b1]
    cases b2 : (eqI a0.n a1.n : Bool)
    · replace h := br_f b2 h
      cases h
      simp -implicitDefEqProofs only [go_sem, Nat.reduceLT, Nat.reduceAdd, Nat.reduceMul, Nat.reduceEqDiff, Nat.reduceLeDiff, reduceCtorEq, ↓reduceIte, i119, c119, b1, b2]
    · replace h := br_t b2 h
      cases h
      simp -implicitDefEqProofs only [go_sem, Nat.reduceLT, Nat.reduceAdd, Nat.reduceMul, Nat.reduceEqDiff, Nat.reduceLeDiff, reduceCtorEq, ↓reduceIte, i119, c119, b1, b2]
-- f69 laws.eqActS
theorem call69 (args : List AV) (S : St) : evCall T (evFL T) 69 args S = lendC (evFL T 69) S (lendAll S [[2], [2]] args) := evCall0 fn69 rfl rfl rfl args S
theorem callz69 (args : List AV) (S : St) : evCallFz T (evFL T) 69 args S = lendZ (evFL T 69) S [[0]] (lendAll S [[2], [2]] args) := evCallFz0 fn69 rfl rfl rfl args S
theorem calls69 (args : List AV) (S : St) : evCall (T.at true) (evFL T) 69 args S = lendC (evFL T 69) S (lendAll S [[2], [2]] args) := evCall0 fns69 rfl rfl rfl args S
theorem callsz69 (args : List AV) (S : St) : evCallFz (T.at true) (evFL T) 69 args S = lendZ (evFL T 69) S [[0]] (lendAll S [[2], [2]] args) := evCallFz0 fns69 rfl rfl rfl args S
attribute [go_sem] call69 callz69 calls69 callsz69
noncomputable def X69_1 (a0 : (List Acn)) (a1 : (List Acn)) (o : (Unit ⊕ Unit)) : Ex × Fr × St :=
  match o with
  | .inl o => (.exit 0, frOf 27 (anyF), [])
  | .inr o => (.ret, frOf 27 (upd anyF 4 (.bool false)), [])
noncomputable def E69_1 (a0 : (List Acn)) (a1 : (List Acn)) (s : Int) : Fr × St := (frOf 27 (upd (upd (upd anyF 0 (.ts .imm 2 (a0.map encAcn))) 1 (.ts .imm 2 (a1.map encAcn))) 5 (.int .i64 s)), [])
theorem b69_1 (a0 : (List Acn)) (a1 : (List Acn)) (s : Int) (o : Ctl Int (Unit ⊕ Unit)) (h : m69_1b a0 a1 s = some o) : evCL T 0 k69_1b (E69_1 a0 a1 s).1 (E69_1 a0 a1 s).2 = some (ctlX (E69_1 a0 a1) (X69_1 a0 a1) o) := by
  unfold m69_1b at h
  revert h
  generalize s = s17
  intro h
  try simp -implicitDefEqProofs only [go_sem, Nat.reduceLT, Nat.reduceAdd, Nat.reduceMul, Nat.reduceEqDiff, Nat.reduceLeDiff, reduceCtorEq, ↓reduceIte, E69_1, X69_1, k69_1b]
  cases b18 : (ltI s17 (↑a0.length : Int) : Bool)
  · replace h := br_f b18 h
    cases h
    simp -implicitDefEqProofs only [go_sem, Nat.reduceLT, Nat.reduceAdd, Nat.reduceMul, Nat.reduceEqDiff, Nat.reduceLeDiff, reduceCtorEq, ↓reduceIte, E69_1, X69_1, k69_1b, b18]
  · replace h := br_t b18 h
    obtain ⟨x19, q20, h⟩ := bnd_some h
    obtain ⟨g21, g22, g23⟩ := idx_row encAcn q20
    try simp -implicitDefEqProofs only [go_sem] at g22
    try simp -implicitDefEqProofs only [go_sem] at g23
    obtain ⟨x24, q25, h⟩ := bnd_some h
    obtain ⟨g26, g27, g28⟩ := idx_row encAcn q25
    try simp -implicitDefEqProofs only [go_sem] at g27
    try simp -implicitDefEqProofs only [go_sem] at g28
    obtain ⟨r31, q29, h⟩ := bnd_some h
    have w30 := e119 x19 x24 r31 q29
    try simp -implicitDefEqProofs only [go_sem] at w30
    try simp -implicitDefEqProofs only [go_sem, Nat.reduceLT, Nat.reduceAdd, Nat.reduceMul, Nat.reduceEqDiff, Nat.reduceLeDiff, reduceCtorEq, ↓reduceIte, E69_1, X69_1, k69_1b, b18, g21, g22, g23, g26, g27, g28, w30]
    cases b32 : (r31 : Bool)
    · replace h := br_f b32 h
      cases h
      simp -implicitDefEqProofs only [go_sem, Nat.reduceLT, Nat.reduceAdd, Nat.reduceMul, Nat.reduceEqDiff, Nat.reduceLeDiff, reduceCtorEq, ↓reduceIte, E69_1, X69_1, k69_1b, b18, g21, g22, g23, g26, g27, g28, w30, b32]
    · replace h := br_t b32 h
      cases h
      simp -implicitDefEqProofs only [go_sem, Nat.reduceLT, Nat.reduceAdd, Nat.reduceMul, Nat.reduceEqDiff, Nat.reduceLeDiff, reduceCtorEq, ↓reduceIte, E69_1, X69_1, k69_1b, b18, g21, g22, g23, g26, g27, g28, w30, b32]
theorem e69_1 (a0 : (List Acn)) (a1 : (List Acn)) (s : Int) (o : (Unit ⊕ Unit)) (h : loopP (m69_1b a0 a1) s = some o) : evCL T 0 (.loop k69_1b) (E69_1 a0 a1 s).1 (E69_1 a0 a1 s).2 = some (X69_1 a0 a1 o) :=
  loop_walk (E := E69_1 a0 a1) (X := X69_1 a0 a1) (by intro b; rcases b with b | b <;> (simp only [X69_1]; nofun)) (b69_1 a0 a1) s o h
theorem e69 (a0 : (List Acn)) (a1 : (List Acn)) (r : Bool) (h : m69 a0 a1 = some r) : evFL T 69 [.ts .imm 2 (a0.map encAcn), .ts .imm 2 (a1.map encAcn)] [] = some (.bool r, []) := by
  unfold m69 at h
  rw [evFL_at fn69 (Nat.le_of_ble_eq_true rfl) rfl (.inr rfl) ⟨rfl, rfl⟩]
  try simp -implicitDefEqProofs only [go_sem, Nat.reduceLT, Nat.reduceAdd, Nat.reduceMul, Nat.reduceEqDiff, Nat.reduceLeDiff, reduceCtorEq, ↓reduceIte, i69, c69]
  cases b1 : (eqI (↑a0.length : Int) (↑a1.length : Int) : Bool)
  · replace h := br_f b1 h
    cases h
    simp -implicitDefEqProofs only [go_sem, Nat.reduceLT, Nat.reduceAdd, Nat.reduceMul, Nat.reduceEqDiff, Nat.reduceLeDiff, reduceCtorEq, ↓reduceIte, i69, c69, b1]
  · replace h := br_t b1 h
    try simp -implicitDefEqProofs only [go_sem, Nat.reduceLT, Nat.reduceAdd, Nat.reduceMul, Nat.reduceEqDiff, Nat.reduceLeDiff, reduceCtorEq, ↓reduceIte, i69, c69, b1]
    obtain ⟨o, q33, h⟩ := bnd_some h
    rcases o with ⟨⟩ | ⟨⟩
    · replace h := selS_l h
      have w34 := e69_1 a0 a1 0 (.inl ()) q33
      simp only [E69_1, X69_1] at w34
      try simp -implicitDefEqProofs only [go_sem] at w34
      cases h
      simp -implicitDefEqProofs only [go_sem, Nat.reduceLT, Nat.reduceAdd, Nat.reduceMul, Nat.reduceEqDiff, Nat.reduceLeDiff, reduceCtorEq, ↓reduceIte, i69, c69, b1, w34]
    · replace h := selS_r h
      have w34 := e69_1 a0 a1 0 (.inr ()) q33
      simp only [E69_1, X69_1] at w34
      try simp -implicitDefEqProofs only [go_sem] at w34
      cases h
      simp -implicitDefEqProofs only [go_sem, Nat.reduceLT, Nat.reduceAdd, Nat.reduceMul, Nat.reduceEqDiff, Nat.reduceLeDiff, reduceCtorEq, ↓reduceIte, i69, c69, b1, w34]
-- f31 laws.eqTerm
theorem call31 (args : List AV) (S : St) : evCall T (evFL T) 31 args S = lendC (evFL T 31) S (lendAll S [[4, 2, 0, 2, 0], [4, 2, 0, 2, 0]] args) := evCall0 fn31 rfl rfl rfl args S
theorem callz31 (args : List AV) (S : St) : evCallFz T (evFL T) 31 args S = lendZ (evFL T 31) S [[0]] (lendAll S [[4, 2, 0, 2, 0], [4, 2, 0, 2, 0]] args) := evCallFz0 fn31 rfl rfl rfl args S
theorem calls31 (args : List AV) (S : St) : evCall (T.at true) (evFL T) 31 args S = lendC (evFL T 31) S (lendAll S [[4, 2, 0, 2, 0], [4, 2, 0, 2, 0]] args) := evCall0 fns31 rfl rfl rfl args S
theorem callsz31 (args : List AV) (S : St) : evCallFz (T.at true) (evFL T) 31 args S = lendZ (evFL T 31) S [[0]] (lendAll S [[4, 2, 0, 2, 0], [4, 2, 0, 2, 0]] args) := evCallFz0 fns31 rfl rfl rfl args S
attribute [go_sem] call31 callz31 calls31 callsz31
theorem e31 (a0 : Term) (a1 : Term) (r : Bool) (h : m31 a0 a1 = some r) : evFL T 31 [.agg [.ts .imm 4 (a0.ranges.map encRange), .ts .imm 2 (a0.path.map encReCell), .int .i64 a0.comm, .ts .imm 2 (a0.acts.map encAcn), .int .i64 a0.verdict], .agg [.ts .imm 4 (a1.ranges.map encRange), .ts .imm 2 (a1.path.map encReCell), .int .i64 a1.comm, .ts .imm 2 (a1.acts.map encAcn), .int .i64 a1.verdict]] [] = some (.bool r, []) := by
  unfold m31 at h
  rw [evFL_at fn31 (Nat.le_of_ble_eq_true rfl) rfl (.inr rfl) ⟨rfl, rfl⟩]
  obtain ⟨r3, q1, h⟩ := bnd_some h
  have w2 := e67 a0.ranges a1.ranges r3 q1
  try simp -implicitDefEqProofs only [go_sem] at w2
  try simp -implicitDefEqProofs only [go_sem, Nat.reduceLT, Nat.reduceAdd, Nat.reduceMul, Nat.reduceEqDiff, Nat.reduceLeDiff, reduceCtorEq, ↓reduceIte, i31, c31, w2]
  cases b4 : (r3 : Bool)
  · replace h := br_f b4 h
    cases h
    simp -implicitDefEqProofs only [go_sem, Nat.reduceLT, Nat.reduceAdd, Nat.reduceMul, Nat.reduceEqDiff, Nat.reduceLeDiff, reduceCtorEq, ↓reduceIte, i31, c31, w2, b4]
  · replace h := br_t b4 h
    obtain ⟨r7, q5, h⟩ := bnd_some h
    have w6 := e68 a0.path a1.path r7 q5
    try simp -implicitDefEqProofs only [go_sem] at w6
    try simp -implicitDefEqProofs only [go_sem, Nat.reduceLT, Nat.reduceAdd, Nat.reduceMul, Nat.reduceEqDiff, Nat.reduceLeDiff, reduceCtorEq, ↓reduceIte, i31, c31, w2, b4, w6]
    cases b8 : (r7 : Bool)
    · replace h := br_f b8 h
      cases h
      simp -implicitDefEqProofs only [go_sem, Nat.reduceLT, Nat.reduceAdd, Nat.reduceMul, Nat.reduceEqDiff, Nat.reduceLeDiff, reduceCtorEq, ↓reduceIte, i31, c31, w2, b4, w6, b8]
    · replace h := br_t b8 h
      try simp -implicitDefEqProofs only [go_sem, Nat.reduceLT, Nat.reduceAdd, Nat.reduceMul, Nat.reduceEqDiff, Nat.reduceLeDiff, reduceCtorEq, ↓reduceIte, i31, c31, w2, b4, w6, b8]
      cases b9 : (eqI a0.comm a1.comm : Bool)
      · replace h := br_f b9 h
        cases h
        simp -implicitDefEqProofs only [go_sem, Nat.reduceLT, Nat.reduceAdd, Nat.reduceMul, Nat.reduceEqDiff, Nat.reduceLeDiff, reduceCtorEq, ↓reduceIte, i31, c31, w2, b4, w6, b8, b9]
      · replace h := br_t b9 h
        obtain ⟨r12, q10, h⟩ := bnd_some h
        have w11 := e69 a0.acts a1.acts r12 q10
        try simp -implicitDefEqProofs only [go_sem] at w11
        try simp -implicitDefEqProofs only [go_sem, Nat.reduceLT, Nat.reduceAdd, Nat.reduceMul, Nat.reduceEqDiff, Nat.reduceLeDiff, reduceCtorEq, ↓reduceIte, i31, c31, w2, b4, w6, b8, b9, w11]
        cases b13 : (r12 : Bool)
        · replace h := br_f b13 h
          cases h
          simp -implicitDefEqProofs only [go_sem, Nat.reduceLT, Nat.reduceAdd, Nat.reduceMul, Nat.reduceEqDiff, Nat.reduceLeDiff, reduceCtorEq, ↓reduceIte, i31, c31, w2, b4, w6, b8, b9, w11, b13]
        · replace h := br_t b13 h
          try simp -implicitDefEqProofs only [go_sem, Nat.reduceLT, Nat.reduceAdd, Nat.reduceMul, Nat.reduceEqDiff, Nat.reduceLeDiff, reduceCtorEq, ↓reduceIte, i31, c31, w2, b4, w6, b8, b9, w11, b13]
          cases b14 : (eqI a0.verdict a1.verdict : Bool)
          · replace h := br_f b14 h
            cases h
            simp -implicitDefEqProofs only [go_sem, Nat.reduceLT, Nat.reduceAdd, Nat.reduceMul, Nat.reduceEqDiff, Nat.reduceLeDiff, reduceCtorEq, ↓reduceIte, i31, c31, w2, b4, w6, b8, b9, w11, b13, b14]
          · replace h := br_t b14 h
            cases h
            simp -implicitDefEqProofs only [go_sem, Nat.reduceLT, Nat.reduceAdd, Nat.reduceMul, Nat.reduceEqDiff, Nat.reduceLeDiff, reduceCtorEq, ↓reduceIte, i31, c31, w2, b4, w6, b8, b9, w11, b13, b14]
-- f47 laws.eqTermS
theorem call47 (args : List AV) (S : St) : evCall T (evFL T) 47 args S = lendC (evFL T 47) S (lendAll S [[5], [5]] args) := evCall0 fn47 rfl rfl rfl args S
theorem callz47 (args : List AV) (S : St) : evCallFz T (evFL T) 47 args S = lendZ (evFL T 47) S [[0]] (lendAll S [[5], [5]] args) := evCallFz0 fn47 rfl rfl rfl args S
theorem calls47 (args : List AV) (S : St) : evCall (T.at true) (evFL T) 47 args S = lendC (evFL T 47) S (lendAll S [[5], [5]] args) := evCall0 fns47 rfl rfl rfl args S
theorem callsz47 (args : List AV) (S : St) : evCallFz (T.at true) (evFL T) 47 args S = lendZ (evFL T 47) S [[0]] (lendAll S [[5], [5]] args) := evCallFz0 fns47 rfl rfl rfl args S
attribute [go_sem] call47 callz47 calls47 callsz47
noncomputable def X47_1 (a0 : (List Term)) (a1 : (List Term)) (o : (Unit ⊕ Unit)) : Ex × Fr × St :=
  match o with
  | .inl o => (.exit 0, frOf 27 (anyF), [])
  | .inr o => (.ret, frOf 27 (upd anyF 4 (.bool false)), [])
noncomputable def E47_1 (a0 : (List Term)) (a1 : (List Term)) (s : Int) : Fr × St := (frOf 27 (upd (upd (upd anyF 0 (.ts .imm 5 (a0.map (encTerm .imm)))) 1 (.ts .imm 5 (a1.map (encTerm .imm)))) 5 (.int .i64 s)), [])
theorem b47_1 (a0 : (List Term)) (a1 : (List Term)) (s : Int) (o : Ctl Int (Unit ⊕ Unit)) (h : m47_1b a0 a1 s = some o) : evCL T 0 k47_1b (E47_1 a0 a1 s).1 (E47_1 a0 a1 s).2 = some (ctlX (E47_1 a0 a1) (X47_1 a0 a1) o) := by
  unfold m47_1b at h
  revert h
  generalize s = s17
  intro h
  try simp -implicitDefEqProofs only [go_sem, Nat.reduceLT, Nat.reduceAdd, Nat.reduceMul, Nat.reduceEqDiff, Nat.reduceLeDiff, reduceCtorEq, ↓reduceIte, E47_1, X47_1, k47_1b]
  cases b18 : (ltI s17 (↑a0.length : Int) : Bool)
  · replace h := br_f b18 h
    cases h
    simp -implicitDefEqProofs only [go_sem, Nat.reduceLT, Nat.reduceAdd, Nat.reduceMul, Nat.reduceEqDiff, Nat.reduceLeDiff, reduceCtorEq, ↓reduceIte, E47_1, X47_1, k47_1b, b18]
  · replace h := br_t b18 h
    obtain ⟨x19, q20, h⟩ := bnd_some h
    obtain ⟨g21, g22, g23⟩ := idx_row (encTerm .imm) q20
    try simp -implicitDefEqProofs only [go_sem] at g22
    try simp -implicitDefEqProofs only [go_sem] at g23
    obtain ⟨x24, q25, h⟩ := bnd_some h
    obtain ⟨g26, g27, g28⟩ := idx_row (encTerm .imm) q25
    try simp -implicitDefEqProofs only [go_sem] at g27
    try simp -implicitDefEqProofs only [go_sem] at g28
    obtain ⟨r31, q29, h⟩ := bnd_some h
    have w30 := e31 x19 x24 r31 q29
    try simp -implicitDefEqProofs only [go_sem] at w30
    try simp -implicitDefEqProofs only [go_sem, Nat.reduceLT, Nat.reduceAdd, Nat.reduceMul, Nat.reduceEqDiff, Nat.reduceLeDiff, reduceCtorEq, ↓reduceIte, E47_1, X47_1, k47_1b, b18, g21, g22, g23, g26, g27, g28, w30]
    cases b32 : (r31 : Bool)
    · replace h := br_f b32 h
      cases h
      simp -implicitDefEqProofs only [go_sem, Nat.reduceLT, Nat.reduceAdd, Nat.reduceMul, Nat.reduceEqDiff, Nat.reduceLeDiff, reduceCtorEq, ↓reduceIte, E47_1, X47_1, k47_1b, b18, g21, g22, g23, g26, g27, g28, w30, b32]
    · replace h := br_t b32 h
      cases h
      simp -implicitDefEqProofs only [go_sem, Nat.reduceLT, Nat.reduceAdd, Nat.reduceMul, Nat.reduceEqDiff, Nat.reduceLeDiff, reduceCtorEq, ↓reduceIte, E47_1, X47_1, k47_1b, b18, g21, g22, g23, g26, g27, g28, w30, b32]
theorem e47_1 (a0 : (List Term)) (a1 : (List Term)) (s : Int) (o : (Unit ⊕ Unit)) (h : loopP (m47_1b a0 a1) s = some o) : evCL T 0 (.loop k47_1b) (E47_1 a0 a1 s).1 (E47_1 a0 a1 s).2 = some (X47_1 a0 a1 o) :=
  loop_walk (E := E47_1 a0 a1) (X := X47_1 a0 a1) (by intro b; rcases b with b | b <;> (simp only [X47_1]; nofun)) (b47_1 a0 a1) s o h
theorem e47 (a0 : (List Term)) (a1 : (List Term)) (r : Bool) (h : m47 a0 a1 = some r) : evFL T 47 [.ts .imm 5 (a0.map (encTerm .imm)), .ts .imm 5 (a1.map (encTerm .imm))] [] = some (.bool r, []) := by
  unfold m47 at h
  rw [evFL_at fn47 (Nat.le_of_ble_eq_true rfl) rfl (.inr rfl) ⟨rfl, rfl⟩]
  try simp -implicitDefEqProofs only [go_sem, Nat.reduceLT, Nat.reduceAdd, Nat.reduceMul, Nat.reduceEqDiff, Nat.reduceLeDiff, reduceCtorEq, ↓reduceIte, i47, c47]
  cases b1 : (eqI (↑a0.length : Int) (↑a1.length : Int) : Bool)
  · replace h := br_f b1 h
    cases h
    simp -implicitDefEqProofs only [go_sem, Nat.reduceLT, Nat.reduceAdd, Nat.reduceMul, Nat.reduceEqDiff, Nat.reduceLeDiff, reduceCtorEq, ↓reduceIte, i47, c47, b1]
  · replace h := br_t b1 h
    try simp -implicitDefEqProofs only [go_sem, Nat.reduceLT, Nat.reduceAdd, Nat.reduceMul, Nat.reduceEqDiff, Nat.reduceLeDiff, reduceCtorEq, ↓reduceIte, i47, c47, b1]
    obtain ⟨o, q33, h⟩ := bnd_some h
    rcases o with ⟨⟩ | ⟨⟩
    · replace h := selS_l h
      have w34 := e47_1 a0 a1 0 (.inl ()) q33
      simp only [E47_1, X47_1] at w34
      try simp -implicitDefEqProofs only [go_sem] at w34
      cases h
      simp -implicitDefEqProofs only [go_sem, Nat.reduceLT, Nat.reduceAdd, Nat.reduceMul, Nat.reduceEqDiff, Nat.reduceLeDiff, reduceCtorEq, ↓reduceIte, i47, c47, b1, w34]
    · replace h := selS_r h
      have w34 := e47_1 a0 a1 0 (.inr ()) q33
      simp only [E47_1, X47_1] at w34
      try simp -implicitDefEqProofs only [go_sem] at w34
      cases h
      simp -implicitDefEqProofs only [go_sem, Nat.reduceLT, Nat.reduceAdd, Nat.reduceMul, Nat.reduceEqDiff, Nat.reduceLeDiff, reduceCtorEq, ↓reduceIte, i47, c47, b1, w34]
-- f17 laws.eqPolicy
theorem call17 (args : List AV) (S : St) : evCall T (evFL T) 17 args S = lendC (evFL T 17) S (lendAll S [[5, 0], [5, 0]] args) := evCall0 fn17 rfl rfl rfl args S
theorem callz17 (args : List AV) (S : St) : evCallFz T (evFL T) 17 args S = lendZ (evFL T 17) S [[0]] (lendAll S [[5, 0], [5, 0]] args) := evCallFz0 fn17 rfl rfl rfl args S
theorem calls17 (args : List AV) (S : St) : evCall (T.at true) (evFL T) 17 args S = lendC (evFL T 17) S (lendAll S [[5, 0], [5, 0]] args) := evCall0 fns17 rfl rfl rfl args S
theorem callsz17 (args : List AV) (S : St) : evCallFz (T.at true) (evFL T) 17 args S = lendZ (evFL T 17) S [[0]] (lendAll S [[5, 0], [5, 0]] args) := evCallFz0 fns17 rfl rfl rfl args S
attribute [go_sem] call17 callz17 calls17 callsz17
theorem e17 (a0 : Policy) (a1 : Policy) (r : Bool) (h : m17 a0 a1 = some r) : evFL T 17 [.agg [.ts .imm 5 (a0.terms.map (encTerm .imm)), .bool a0.accept], .agg [.ts .imm 5 (a1.terms.map (encTerm .imm)), .bool a1.accept]] [] = some (.bool r, []) := by
  unfold m17 at h
  rw [evFL_at fn17 (Nat.le_of_ble_eq_true rfl) rfl (.inr rfl) ⟨rfl, rfl⟩]
  obtain ⟨r3, q1, h⟩ := bnd_some h
  have w2 := e47 a0.terms a1.terms r3 q1
  try simp -implicitDefEqProofs only [go_sem] at w2
  try simp -implicitDefEqProofs only [go_sem, Nat.reduceLT, Nat.reduceAdd, Nat.reduceMul, Nat.reduceEqDiff, Nat.reduceLeDiff, reduceCtorEq, ↓reduceIte, i17, c17, w2]
  cases b4 : (r3 : Bool)
  · replace h := br_f b4 h
    cases h
    simp -implicitDefEqProofs only [go_sem, Nat.reduceLT, Nat.reduceAdd, Nat.reduceMul, Nat.reduceEqDiff, Nat.reduceLeDiff, reduceCtorEq, ↓reduceIte, i17, c17, w2, b4]
  · replace h := br_t b4 h
    try simp -implicitDefEqProofs only [go_sem, Nat.reduceLT, Nat.reduceAdd, Nat.reduceMul, Nat.reduceEqDiff, Nat.reduceLeDiff, reduceCtorEq, ↓reduceIte, i17, c17, w2, b4]
    cases b5 : (eqB a0.accept a1.accept : Bool)
    · replace h := br_f b5 h
      cases h
      simp -implicitDefEqProofs only [go_sem, Nat.reduceLT, Nat.reduceAdd, Nat.reduceMul, Nat.reduceEqDiff, Nat.reduceLeDiff, reduceCtorEq, ↓reduceIte, i17, c17, w2, b4, b5]
    · replace h := br_t b5 h
      cases h
      simp -implicitDefEqProofs only [go_sem, Nat.reduceLT, Nat.reduceAdd, Nat.reduceMul, Nat.reduceEqDiff, Nat.reduceLeDiff, reduceCtorEq, ↓reduceIte, i17, c17, w2, b4, b5]
-- f102 laws.markRangeS
theorem call102 (args : List AV) (S : St) : evCall T (evFL T) 102 args S = c3A true true (evFL T 102) (rawAll S [[4], [0]] args) := evCall3_g fn102 rfl (fun h => absurd h.1 (by decide)) args S
theorem calls102 (args : List AV) (S : St) : evCall (T.at true) (evFL T) 102 args S = c3A false true (evFL T 102) (rawAll S [[4], [0]] args) := evCall3_g fns102 rfl (fun h => absurd h.1 (by decide)) args S
attribute [go_sem] call102 calls102
noncomputable def X102_1 (o : (Int × List Range)) : Ex × Fr × St :=
  (.exit 0, frOf 43 (upd anyF 1 (.int .i64 o.1)), [some ⟨.arr, 4, o.2.map encRange⟩])
noncomputable def E102_1 (s : (Int × Int × List Range)) : Fr × St := (frOf 43 (upd (upd (upd anyF 0 (.sl 0 0 s.2.2.length)) 1 (.int .i64 s.1)) 5 (.int .i64 s.2.1)), [some ⟨.arr, 4, s.2.2.map encRange⟩])
theorem b102_1 (s : (Int × Int × List Range)) (o : Ctl (Int × Int × List Range) (Int × List Range)) (h : m102_1b s = some o) : evCL T 1 k102_1b (E102_1 s).1 (E102_1 s).2 = some (ctlX (E102_1) (X102_1) o) := by
  unfold m102_1b at h
  obtain ⟨s7, s8, s9⟩ := s
  replace h := sel3_some h
  try simp -implicitDefEqProofs only [go_sem, Nat.reduceLT, Nat.reduceAdd, Nat.reduceMul, Nat.reduceEqDiff, Nat.reduceLeDiff, reduceCtorEq, ↓reduceIte, E102_1, X102_1, k102_1b]
  cases b10 : (ltI s8 (↑s9.length : Int) : Bool)
  · replace h := br_f b10 h
    cases h
    simp -implicitDefEqProofs only [go_sem, Nat.reduceLT, Nat.reduceAdd, Nat.reduceMul, Nat.reduceEqDiff, Nat.reduceLeDiff, reduceCtorEq, ↓reduceIte, E102_1, X102_1, k102_1b, b10]
  · replace h := br_t b10 h
    obtain ⟨x11, q12, h⟩ := bnd_some h
    obtain ⟨g13, g14, g15⟩ := idx_row encRange q12
    try simp -implicitDefEqProofs only [go_sem] at g14
    try simp -implicitDefEqProofs only [go_sem] at g15
    cases h
    simp -implicitDefEqProofs only [go_sem, Nat.reduceLT, Nat.reduceAdd, Nat.reduceMul, Nat.reduceEqDiff, Nat.reduceLeDiff, reduceCtorEq, ↓reduceIte, E102_1, X102_1, k102_1b, b10, g13, g14, g15]
theorem e102_1 (s : (Int × Int × List Range)) (o : (Int × List Range)) (h : loopP (m102_1b) s = some o) : evCL T 1 (.loop k102_1b) (E102_1 s).1 (E102_1 s).2 = some (X102_1 o) :=
  loop_walk (E := E102_1) (X := X102_1) (by intro b; (simp only [X102_1]; nofun)) (b102_1) s o h
theorem e102 (a0 : (List Range)) (a1 : Int) (r : (Int × List Range)) (h : m102 a0 a1 = some r) : evFL T 102 [.sl 0 0 a0.length, .int .i64 a1] [some ⟨.arr, 4, a0.map encRange⟩] = some (.int .i64 r.1, [some ⟨.arr, 4, r.2.map encRange⟩]) := by
  unfold m102 at h
  rw [evFL_at fn102 (Nat.le_of_ble_eq_true rfl) rfl (.inl rfl) ⟨rfl, rfl⟩]
  obtain ⟨⟨v18, v19⟩, q16, h⟩ := bnd_some h
  replace h := sel2_some h
  have w17 := e102_1 (a1, 0, a0) (v18, v19) q16
  simp only [E102_1, X102_1] at w17
  try simp -implicitDefEqProofs only [go_sem] at w17
  cases h
  simp -implicitDefEqProofs only [go_sem, Nat.reduceLT, Nat.reduceAdd, Nat.reduceMul, Nat.reduceEqDiff, Nat.reduceLeDiff, reduceCtorEq, ↓reduceIte, i102, c102, w17]
-- f103 laws.markReCellS
theorem call103 (args : List AV) (S : St) : evCall T (evFL T) 103 args S = c3A true true (evFL T 103) (rawAll S [[2], [0]] args) := evCall3_g fn103 rfl (fun h => absurd h.1 (by decide)) args S
theorem calls103 (args : List AV) (S : St) : evCall (T.at true) (evFL T) 103 args S = c3A false true (evFL T 103) (rawAll S [[2], [0]] args) := evCall3_g fns103 rfl (fun h => absurd h.1 (by decide)) args S
attribute [go_sem] call103 calls103
noncomputable def X103_1 (o : (Int × List ReCell)) : Ex × Fr × St :=
  (.exit 0, frOf 27 (upd anyF 1 (.int .i64 o.1)), [some ⟨.arr, 2, o.2.map encReCell⟩])
noncomputable def E103_1 (s : (Int × Int × List ReCell)) : Fr × St := (frOf 27 (upd (upd (upd anyF 0 (.sl 0 0 s.2.2.length)) 1 (.int .i64 s.1)) 5 (.int .i64 s.2.1)), [some ⟨.arr, 2, s.2.2.map encReCell⟩])
theorem b103_1 (s : (Int × Int × List ReCell)) (o : Ctl (Int × Int × List ReCell) (Int × List ReCell)) (h : m103_1b s = some o) : evCL T 1 k103_1b (E103_1 s).1 (E103_1 s).2 = some (ctlX (E103_1) (X103_1) o) := by
  unfold m103_1b at h
  obtain ⟨s7, s8, s9⟩ := s
  replace h := sel3_some h
  try simp -implicitDefEqProofs only [go_sem, Nat.reduceLT, Nat.reduceAdd, Nat.reduceMul, Nat.reduceEqDiff, Nat.reduceLeDiff, reduceCtorEq, ↓reduceIte, E103_1, X103_1, k103_1b]
  cases b10 : (ltI s8 (↑s9.length : Int) : Bool)
  · replace h := br_f b10 h
    cases h
    simp -implicitDefEqProofs only [go_sem, Nat.reduceLT, Nat.reduceAdd, Nat.reduceMul, Nat.reduceEqDiff, Nat.reduceLeDiff, reduceCtorEq, ↓reduceIte, E103_1, X103_1, k103_1b, b10]
  · replace h := br_t b10 h
    obtain ⟨x11, q12, h⟩ := bnd_some h
    obtain ⟨g13, g14, g15⟩ := idx_row encReCell q12
    try simp -implicitDefEqProofs only [go_sem] at g14
    try simp -implicitDefEqProofs only [go_sem] at g15
    cases h
    simp -implicitDefEqProofs only [go_sem, Nat.reduceLT, Nat.reduceAdd, Nat.reduceMul, Nat.reduceEqDiff, Nat.reduceLeDiff, reduceCtorEq, ↓reduceIte, E103_1, X103_1, k103_1b, b10, g13, g14, g15]
theorem e103_1 (s : (Int × Int × List ReCell)) (o : (Int × List ReCell)) (h : loopP (m103_1b) s = some o) : evCL T 1 (.loop k103_1b) (E103_1 s).1 (E103_1 s).2 = some (X103_1 o) :=
  loop_walk (E := E103_1) (X := X103_1) (by intro b; (simp only [X103_1]; nofun)) (b103_1) s o h
theorem e103 (a0 : (List ReCell)) (a1 : Int) (r : (Int × List ReCell)) (h : m103 a0 a1 = some r) : evFL T 103 [.sl 0 0 a0.length, .int .i64 a1] [some ⟨.arr, 2, a0.map encReCell⟩] = some (.int .i64 r.1, [some ⟨.arr, 2, r.2.map encReCell⟩]) := by
  unfold m103 at h
  rw [evFL_at fn103 (Nat.le_of_ble_eq_true rfl) rfl (.inl rfl) ⟨rfl, rfl⟩]
  obtain ⟨⟨v18, v19⟩, q16, h⟩ := bnd_some h
  replace h := sel2_some h
  have w17 := e103_1 (a1, 0, a0) (v18, v19) q16
  simp only [E103_1, X103_1] at w17
  try simp -implicitDefEqProofs only [go_sem] at w17
  cases h
  simp -implicitDefEqProofs only [go_sem, Nat.reduceLT, Nat.reduceAdd, Nat.reduceMul, Nat.reduceEqDiff, Nat.reduceLeDiff, reduceCtorEq, ↓reduceIte, i103, c103, w17]
-- f104 laws.markActS
theorem call104 (args : List AV) (S : St) : evCall T (evFL T) 104 args S = c3A true true (evFL T 104) (rawAll S [[2], [0]] args) := evCall3_g fn104 rfl (fun h => absurd h.1 (by decide)) args S
theorem calls104 (args : List AV) (S : St) : evCall (T.at true) (evFL T) 104 args S = c3A false true (evFL T 104) (rawAll S [[2], [0]] args) := evCall3_g fns104 rfl (fun h => absurd h.1 (by decide)) args S
attribute [go_sem] call104 calls104
noncomputable def X104_1 (o : (Int × List Acn)) : Ex × Fr × St :=
  (.exit 0, frOf 27 (upd anyF 1 (.int .i64 o.1)), [some ⟨.arr, 2, o.2.map encAcn⟩])
noncomputable def E104_1 (s : (Int × Int × List Acn)) : Fr × St := (frOf 27 (upd (upd (upd anyF 0 (.sl 0 0 s.2.2.length)) 1 (.int .i64 s.1)) 5 (.int .i64 s.2.1)), [some ⟨.arr, 2, s.2.2.map encAcn⟩])
theorem b104_1 (s : (Int × Int × List Acn)) (o : Ctl (Int × Int × List Acn) (Int × List Acn)) (h : m104_1b s = some o) : evCL T 1 k104_1b (E104_1 s).1 (E104_1 s).2 = some (ctlX (E104_1) (X104_1) o) := by
  unfold m104_1b at h
  obtain ⟨s7, s8, s9⟩ := s
  replace h := sel3_some h
  try simp -implicitDefEqProofs only [go_sem, Nat.reduceLT, Nat.reduceAdd, Nat.reduceMul, Nat.reduceEqDiff, Nat.reduceLeDiff, reduceCtorEq, ↓reduceIte, E104_1, X104_1, k104_1b]
  cases b10 : (ltI s8 (↑s9.length : Int) : Bool)
  · replace h := br_f b10 h
    cases h
    simp -implicitDefEqProofs only [go_sem, Nat.reduceLT, Nat.reduceAdd, Nat.reduceMul, Nat.reduceEqDiff, Nat.reduceLeDiff, reduceCtorEq, ↓reduceIte, E104_1, X104_1, k104_1b, b10]
  · replace h := br_t b10 h
    obtain ⟨x11, q12, h⟩ := bnd_some h
    obtain ⟨g13, g14, g15⟩ := idx_row encAcn q12
    try simp -implicitDefEqProofs only [go_sem] at g14
    try simp -implicitDefEqProofs only [go_sem] at g15
    cases h
    simp -implicitDefEqProofs only [go_sem, Nat.reduceLT, Nat.reduceAdd, Nat.reduceMul, Nat.reduceEqDiff, Nat.reduceLeDiff, reduceCtorEq, ↓reduceIte, E104_1, X104_1, k104_1b, b10, g13, g14, g15]
theorem e104_1 (s : (Int × Int × List Acn)) (o : (Int × List Acn)) (h : loopP (m104_1b) s = some o) : evCL T 1 (.loop k104_1b) (E104_1 s).1 (E104_1 s).2 = some (X104_1 o) :=
  loop_walk (E := E104_1) (X := X104_1) (by intro b; (simp only [X104_1]; nofun)) (b104_1) s o h
theorem e104 (a0 : (List Acn)) (a1 : Int) (r : (Int × List Acn)) (h : m104 a0 a1 = some r) : evFL T 104 [.sl 0 0 a0.length, .int .i64 a1] [some ⟨.arr, 2, a0.map encAcn⟩] = some (.int .i64 r.1, [some ⟨.arr, 2, r.2.map encAcn⟩]) := by
  unfold m104 at h
  rw [evFL_at fn104 (Nat.le_of_ble_eq_true rfl) rfl (.inl rfl) ⟨rfl, rfl⟩]
  obtain ⟨⟨v18, v19⟩, q16, h⟩ := bnd_some h
  replace h := sel2_some h
  have w17 := e104_1 (a1, 0, a0) (v18, v19) q16
  simp only [E104_1, X104_1] at w17
  try simp -implicitDefEqProofs only [go_sem] at w17
  cases h
  simp -implicitDefEqProofs only [go_sem, Nat.reduceLT, Nat.reduceAdd, Nat.reduceMul, Nat.reduceEqDiff, Nat.reduceLeDiff, reduceCtorEq, ↓reduceIte, i104, c104, w17]
-- f57 laws.markTermS
theorem calls57 (args : List AV) (S : St) : evCall (T.at true) (evFL T) 57 args S = c3A true true (evFL T 57) (rawAll S [[5], [0]] args) := evCall3_g fns57 rfl (fun h => absurd h.2 (by decide)) args S
attribute [go_sem] calls57
noncomputable def X57_1 (o : (Int × List Term)) : Ex × Fr × St :=
  (.exit 0, frOf 48 (upd anyF 1 (.int .i64 o.1)), [some ⟨.arr, 5, o.2.map (encTerm .own)⟩])
noncomputable def E57_1 (s : (Int × Int × List Term)) : Fr × St := (frOf 48 (upd (upd (upd anyF 0 (.sl 0 0 s.2.2.length)) 1 (.int .i64 s.1)) 5 (.int .i64 s.2.1)), [some ⟨.arr, 5, s.2.2.map (encTerm .own)⟩])
theorem b57_1 (s : (Int × Int × List Term)) (o : Ctl (Int × Int × List Term) (Int × List Term)) (h : m57_1b s = some o) : evCL (T.at true) 1 k57_1b (E57_1 s).1 (E57_1 s).2 = some (ctlX (E57_1) (X57_1) o) := by
  unfold m57_1b at h
  obtain ⟨s22, s23, s24⟩ := s
  replace h := sel3_some h
  try simp -implicitDefEqProofs only [go_sem, Nat.reduceLT, Nat.reduceAdd, Nat.reduceMul, Nat.reduceEqDiff, Nat.reduceLeDiff, reduceCtorEq, ↓reduceIte, E57_1, X57_1, k57_1b]
  cases b25 : (ltI s23 (↑s24.length : Int) : Bool)
  · replace h := br_f b25 h
    cases h
    simp -implicitDefEqProofs only [go_sem, Nat.reduceLT, Nat.reduceAdd, Nat.reduceMul, Nat.reduceEqDiff, Nat.reduceLeDiff, reduceCtorEq, ↓reduceIte, E57_1, X57_1, k57_1b, b25]
  · replace h := br_t b25 h
    obtain ⟨x26, q27, h⟩ := bnd_some h
    obtain ⟨g28, g29, g30⟩ := idx_row (encTerm .own) q27
    try simp -implicitDefEqProofs only [go_sem] at g29
    try simp -implicitDefEqProofs only [go_sem] at g30
    obtain ⟨⟨r33, r34⟩, q31, h⟩ := bnd_some h
    replace h := sel2_some h
    have w32 := e102 x26.ranges s22 (r33, r34) q31
    try simp -implicitDefEqProofs only [go_sem] at w32
    obtain ⟨g35, h⟩ := ck_some h
    try simp -implicitDefEqProofs only [go_sem] at g35
    obtain ⟨⟨r38, r39⟩, q36, h⟩ := bnd_some h
    replace h := sel2_some h
    have w37 := e103 x26.path r33 (r38, r39) q36
    try simp -implicitDefEqProofs only [go_sem, g35] at w37
    obtain ⟨g40, h⟩ := ck_some h
    try simp -implicitDefEqProofs only [go_sem] at g40
    obtain ⟨⟨r43, r44⟩, q41, h⟩ := bnd_some h
    replace h := sel2_some h
    have w42 := e104 x26.acts (wadd .i64 r38 1) (r43, r44) q41
    try simp -implicitDefEqProofs only [go_sem, g35, g40] at w42
    obtain ⟨g45, h⟩ := ck_some h
    try simp -implicitDefEqProofs only [go_sem] at g45
    cases h
    simp -implicitDefEqProofs only [go_sem, Nat.reduceLT, Nat.reduceAdd, Nat.reduceMul, Nat.reduceEqDiff, Nat.reduceLeDiff, reduceCtorEq, ↓reduceIte, E57_1, X57_1, k57_1b, b25, g28, g29, g30, w32, g35, take_of_len_map g35, w37, g40, take_of_len_map g40, w42, g45, take_of_len_map g45]
theorem e57_1 (s : (Int × Int × List Term)) (o : (Int × List Term)) (h : loopP (m57_1b) s = some o) : evCL (T.at true) 1 (.loop k57_1b) (E57_1 s).1 (E57_1 s).2 = some (X57_1 o) :=
  loop_walk (E := E57_1) (X := X57_1) (by intro b; (simp only [X57_1]; nofun)) (b57_1) s o h
theorem e57 (a0 : (List Term)) (a1 : Int) (r : (Int × List Term)) (h : m57 a0 a1 = some r) : evFL T 57 [.sl 0 0 a0.length, .int .i64 a1] [some ⟨.arr, 5, a0.map (encTerm .own)⟩] = some (.int .i64 r.1, [some ⟨.arr, 5, r.2.map (encTerm .own)⟩]) := by
  unfold m57 at h
  rw [evFL_atS fn57 (Nat.le_of_ble_eq_true rfl) rfl (.inl rfl) ⟨rfl, rfl⟩]
  obtain ⟨⟨v48, v49⟩, q46, h⟩ := bnd_some h
  replace h := sel2_some h
  have w47 := e57_1 (a1, 0, a0) (v48, v49) q46
  simp only [E57_1, X57_1] at w47
  try simp -implicitDefEqProofs only [go_sem] at w47
  cases h
  simp -implicitDefEqProofs only [go_sem, Nat.reduceLT, Nat.reduceAdd, Nat.reduceMul, Nat.reduceEqDiff, Nat.reduceLeDiff, reduceCtorEq, ↓reduceIte, i57, c57, w47]
-- f25 laws.markPolicy
theorem calls25 (args : List AV) (S : St) : evCall (T.at true) (evFL T) 25 args S = c3A true true (evFL T 25) (rawAll S [[5, 0], [0]] args) := evCall3_g fns25 rfl (fun h => absurd h.2 (by decide)) args S
attribute [go_sem] calls25
theorem e25 (a0 : Policy) (a1 : Int) (r : (Int × List Term)) (h : m25 a0 a1 = some r) : evFL T 25 [.agg [.sl 0 0 a0.terms.length, .bool a0.accept], .int .i64 a1] [some ⟨.arr, 5, a0.terms.map (encTerm .own)⟩] = some (.int .i64 r.1, [some ⟨.arr, 5, r.2.map (encTerm .own)⟩]) := by
  unfold m25 at h
  rw [evFL_atS fn25 (Nat.le_of_ble_eq_true rfl) rfl (.inl rfl) ⟨rfl, rfl⟩]
  obtain ⟨⟨r3, r4⟩, q1, h⟩ := bnd_some h
  replace h := sel2_some h
  have w2 := e57 a0.terms a1 (r3, r4) q1
  try simp -implicitDefEqProofs only [go_sem] at w2
  obtain ⟨g5, h⟩ := ck_some h
  try simp -implicitDefEqProofs only [go_sem] at g5
  cases h
  simp -implicitDefEqProofs only [go_sem, Nat.reduceLT, Nat.reduceAdd, Nat.reduceMul, Nat.reduceEqDiff, Nat.reduceLeDiff, reduceCtorEq, ↓reduceIte, i25, c25, w2, g5, take_of_len_map g5]
-- f105 laws.heldRangeS
theorem call105 (args : List AV) (S : St) : evCall T (evFL T) 105 args S = lendC (evFL T 105) S (lendAll S [[4], [0]] args) := evCall0 fn105 rfl rfl rfl args S
theorem callz105 (args : List AV) (S : St) : evCallFz T (evFL T) 105 args S = lendZ (evFL T 105) S [[0]] (lendAll S [[4], [0]] args) := evCallFz0 fn105 rfl rfl rfl args S
theorem calls105 (args : List AV) (S : St) : evCall (T.at true) (evFL T) 105 args S = lendC (evFL T 105) S (lendAll S [[4], [0]] args) := evCall0 fns105 rfl rfl rfl args S
theorem callsz105 (args : List AV) (S : St) : evCallFz (T.at true) (evFL T) 105 args S = lendZ (evFL T 105) S [[0]] (lendAll S [[4], [0]] args) := evCallFz0 fns105 rfl rfl rfl args S
attribute [go_sem] call105 callz105 calls105 callsz105
noncomputable def X105_1 (a0 : (List Range)) (o : (Int ⊕ Unit)) : Ex × Fr × St :=
  match o with
  | .inl o => (.exit 0, frOf 51 (upd anyF 1 (.int .i64 o)), [])
  | .inr o => (.ret, frOf 51 (upd anyF 4 (.int .i64 (-1))), [])
noncomputable def E105_1 (a0 : (List Range)) (s : (Int × Int)) : Fr × St := (frOf 51 (upd (upd (upd anyF 0 (.ts .imm 4 (a0.map encRange))) 1 (.int .i64 s.1)) 5 (.int .i64 s.2)), [])
theorem b105_1 (a0 : (List Range)) (s : (Int × Int)) (o : Ctl (Int × Int) (Int ⊕ Unit)) (h : m105_1b a0 s = some o) : evCL T 0 k105_1b (E105_1 a0 s).1 (E105_1 a0 s).2 = some (ctlX (E105_1 a0) (X105_1 a0) o) := by
  unfold m105_1b at h
  obtain ⟨s11, s12⟩ := s
  replace h := sel2_some h
  try simp -implicitDefEqProofs only [go_sem, Nat.reduceLT, Nat.reduceAdd, Nat.reduceMul, Nat.reduceEqDiff, Nat.reduceLeDiff, reduceCtorEq, ↓reduceIte, E105_1, X105_1, k105_1b]
  cases b13 : (ltI s12 (↑a0.length : Int) : Bool)
  · replace h := br_f b13 h
    cases h
    simp -implicitDefEqProofs only [go_sem, Nat.reduceLT, Nat.reduceAdd, Nat.reduceMul, Nat.reduceEqDiff, Nat.reduceLeDiff, reduceCtorEq, ↓reduceIte, E105_1, X105_1, k105_1b, b13]
  · replace h := br_t b13 h
    obtain ⟨x14, q15, h⟩ := bnd_some h
    obtain ⟨g16, g17, g18⟩ := idx_row encRange q15
    try simp -implicitDefEqProofs only [go_sem] at g17
    try simp -implicitDefEqProofs only [go_sem] at g18
    try simp -implicitDefEqProofs only [go_sem, Nat.reduceLT, Nat.reduceAdd, Nat.reduceMul, Nat.reduceEqDiff, Nat.reduceLeDiff, reduceCtorEq, ↓reduceIte, E105_1, X105_1, k105_1b, b13, g16, g17, g18]
    cases b19 : (eqI x14.prefix_.addr s11 : Bool)
    · replace h := br_f b19 h
      cases h
      simp -implicitDefEqProofs only [go_sem, Nat.reduceLT, Nat.reduceAdd, Nat.reduceMul, Nat.reduceEqDiff, Nat.reduceLeDiff, reduceCtorEq, ↓reduceIte, E105_1, X105_1, k105_1b, b13, g16, g17, g18, b19]
    · replace h := br_t b19 h
      try simp -implicitDefEqProofs only [go_sem, Nat.reduceLT, Nat.reduceAdd, Nat.reduceMul, Nat.reduceEqDiff, Nat.reduceLeDiff, reduceCtorEq, ↓reduceIte, E105_1, X105_1, k105_1b, b13, g16, g17, g18, b19]
      cases b20 : (eqI x14.prefix_.len (wadd .i64 s11 1) : Bool)
      · replace h := br_f b20 h
        cases h
        simp -implicitDefEqProofs only [go_sem, Nat.reduceLT, Nat.reduceAdd, Nat.reduceMul, Nat.reduceEqDiff, Nat.reduceLeDiff, reduceCtorEq, ↓reduceIte, E105_1, X105_1, k105_1b, b13, g16, g17, g18, b19, b20]
      · replace h := br_t b20 h
        try simp -implicitDefEqProofs only [go_sem, Nat.reduceLT, Nat.reduceAdd, Nat.reduceMul, Nat.reduceEqDiff, Nat.reduceLeDiff, reduceCtorEq, ↓reduceIte, E105_1, X105_1, k105_1b, b13, g16, g17, g18, b19, b20]
        cases b21 : (eqI x14.lo (wadd .i64 (wadd .i64 s11 1) 1) : Bool)
        · replace h := br_f b21 h
          cases h
          simp -implicitDefEqProofs only [go_sem, Nat.reduceLT, Nat.reduceAdd, Nat.reduceMul, Nat.reduceEqDiff, Nat.reduceLeDiff, reduceCtorEq, ↓reduceIte, E105_1, X105_1, k105_1b, b13, g16, g17, g18, b19, b20, b21]
        · replace h := br_t b21 h
          try simp -implicitDefEqProofs only [go_sem, Nat.reduceLT, Nat.reduceAdd, Nat.reduceMul, Nat.reduceEqDiff, Nat.reduceLeDiff, reduceCtorEq, ↓reduceIte, E105_1, X105_1, k105_1b, b13, g16, g17, g18, b19, b20, b21]
          cases b22 : (eqI x14.hi (wadd .i64 (wadd .i64 (wadd .i64 s11 1) 1) 1) : Bool)
          · replace h := br_f b22 h
            cases h
            simp -implicitDefEqProofs only [go_sem, Nat.reduceLT, Nat.reduceAdd, Nat.reduceMul, Nat.reduceEqDiff, Nat.reduceLeDiff, reduceCtorEq, ↓reduceIte, E105_1, X105_1, k105_1b, b13, g16, g17, g18, b19, b20, b21, b22]
          · replace h := br_t b22 h
            cases h
            simp -implicitDefEqProofs only [go_sem, Nat.reduceLT, Nat.reduceAdd, Nat.reduceMul, Nat.reduceEqDiff, Nat.reduceLeDiff, reduceCtorEq, ↓reduceIte, E105_1, X105_1, k105_1b, b13, g16, g17, g18, b19, b20, b21, b22]
theorem e105_1 (a0 : (List Range)) (s : (Int × Int)) (o : (Int ⊕ Unit)) (h : loopP (m105_1b a0) s = some o) : evCL T 0 (.loop k105_1b) (E105_1 a0 s).1 (E105_1 a0 s).2 = some (X105_1 a0 o) :=
  loop_walk (E := E105_1 a0) (X := X105_1 a0) (by intro b; rcases b with b | b <;> (simp only [X105_1]; nofun)) (b105_1 a0) s o h
theorem e105 (a0 : (List Range)) (a1 : Int) (r : Int) (h : m105 a0 a1 = some r) : evFL T 105 [.ts .imm 4 (a0.map encRange), .int .i64 a1] [] = some (.int .i64 r, []) := by
  unfold m105 at h
  rw [evFL_at fn105 (Nat.le_of_ble_eq_true rfl) rfl (.inr rfl) ⟨rfl, rfl⟩]
  try simp -implicitDefEqProofs only [go_sem, Nat.reduceLT, Nat.reduceAdd, Nat.reduceMul, Nat.reduceEqDiff, Nat.reduceLeDiff, reduceCtorEq, ↓reduceIte, i105, c105]
  obtain ⟨o, q23, h⟩ := bnd_some h
  rcases o with v25 | ⟨⟩
  · replace h := selS_l h
    have w24 := e105_1 a0 (a1, 0) (.inl v25) q23
    simp only [E105_1, X105_1] at w24
    try simp -implicitDefEqProofs only [go_sem] at w24
    cases h
    simp -implicitDefEqProofs only [go_sem, Nat.reduceLT, Nat.reduceAdd, Nat.reduceMul, Nat.reduceEqDiff, Nat.reduceLeDiff, reduceCtorEq, ↓reduceIte, i105, c105, w24]
  · replace h := selS_r h
    have w24 := e105_1 a0 (a1, 0) (.inr ()) q23
    simp only [E105_1, X105_1] at w24
    try simp -implicitDefEqProofs only [go_sem] at w24
    cases h
    simp -implicitDefEqProofs only [go_sem, Nat.reduceLT, Nat.reduceAdd, Nat.reduceMul, Nat.reduceEqDiff, Nat.reduceLeDiff, reduceCtorEq, ↓reduceIte, i105, c105, w24]
-- f106 laws.heldReCellS
theorem call106 (args : List AV) (S : St) : evCall T (evFL T) 106 args S = lendC (evFL T 106) S (lendAll S [[2], [0]] args) := evCall0 fn106 rfl rfl rfl args S
theorem callz106 (args : List AV) (S : St) : evCallFz T (evFL T) 106 args S = lendZ (evFL T 106) S [[0]] (lendAll S [[2], [0]] args) := evCallFz0 fn106 rfl rfl rfl args S
theorem calls106 (args : List AV) (S : St) : evCall (T.at true) (evFL T) 106 args S = lendC (evFL T 106) S (lendAll S [[2], [0]] args) := evCall0 fns106 rfl rfl rfl args S
theorem callsz106 (args : List AV) (S : St) : evCallFz (T.at true) (evFL T) 106 args S = lendZ (evFL T 106) S [[0]] (lendAll S [[2], [0]] args) := evCallFz0 fns106 rfl rfl rfl args S
attribute [go_sem] call106 callz106 calls106 callsz106
noncomputable def X106_1 (a0 : (List ReCell)) (o : (Int ⊕ Unit)) : Ex × Fr × St :=
  match o with
  | .inl o => (.exit 0, frOf 31 (upd anyF 1 (.int .i64 o)), [])
  | .inr o => (.ret, frOf 31 (upd anyF 4 (.int .i64 (-1))), [])
noncomputable def E106_1 (a0 : (List ReCell)) (s : (Int × Int)) : Fr × St := (frOf 31 (upd (upd (upd anyF 0 (.ts .imm 2 (a0.map encReCell))) 1 (.int .i64 s.1)) 5 (.int .i64 s.2)), [])
theorem b106_1 (a0 : (List ReCell)) (s : (Int × Int)) (o : Ctl (Int × Int) (Int ⊕ Unit)) (h : m106_1b a0 s = some o) : evCL T 0 k106_1b (E106_1 a0 s).1 (E106_1 a0 s).2 = some (ctlX (E106_1 a0) (X106_1 a0) o) := by
  unfold m106_1b at h
  obtain ⟨s9, s10⟩ := s
  replace h := sel2_some h
  try simp -implicitDefEqProofs only [go_sem, Nat.reduceLT, Nat.reduceAdd, Nat.reduceMul, Nat.reduceEqDiff, Nat.reduceLeDiff, reduceCtorEq, ↓reduceIte, E106_1, X106_1, k106_1b]
  cases b11 : (ltI s10 (↑a0.length : Int) : Bool)
  · replace h := br_f b11 h
    cases h
    simp -implicitDefEqProofs only [go_sem, Nat.reduceLT, Nat.reduceAdd, Nat.reduceMul, Nat.reduceEqDiff, Nat.reduceLeDiff, reduceCtorEq, ↓reduceIte, E106_1, X106_1, k106_1b, b11]
  · replace h := br_t b11 h
    obtain ⟨x12, q13, h⟩ := bnd_some h
    obtain ⟨g14, g15, g16⟩ := idx_row encReCell q13
    try simp -implicitDefEqProofs only [go_sem] at g15
    try simp -implicitDefEqProofs only [go_sem] at g16
    try simp -implicitDefEqProofs only [go_sem, Nat.reduceLT, Nat.reduceAdd, Nat.reduceMul, Nat.reduceEqDiff, Nat.reduceLeDiff, reduceCtorEq, ↓reduceIte, E106_1, X106_1, k106_1b, b11, g14, g15, g16]
    cases b17 : (eqI x12.kind s9 : Bool)
    · replace h := br_f b17 h
      cases h
      simp -implicitDefEqProofs only [go_sem, Nat.reduceLT, Nat.reduceAdd, Nat.reduceMul, Nat.reduceEqDiff, Nat.reduceLeDiff, reduceCtorEq, ↓reduceIte, E106_1, X106_1, k106_1b, b11, g14, g15, g16, b17]
    · replace h := br_t b17 h
      try simp -implicitDefEqProofs only [go_sem, Nat.reduceLT, Nat.reduceAdd, Nat.reduceMul, Nat.reduceEqDiff, Nat.reduceLeDiff, reduceCtorEq, ↓reduceIte, E106_1, X106_1, k106_1b, b11, g14, g15, g16, b17]
      cases b18 : (eqI x12.n (wadd .i64 s9 1) : Bool)
      · replace h := br_f b18 h
        cases h
        simp -implicitDefEqProofs only [go_sem, Nat.reduceLT, Nat.reduceAdd, Nat.reduceMul, Nat.reduceEqDiff, Nat.reduceLeDiff, reduceCtorEq, ↓reduceIte, E106_1, X106_1, k106_1b, b11, g14, g15, g16, b17, b18]
      · replace h := br_t b18 h
        cases h
        simp -implicitDefEqProofs only [go_sem, Nat.reduceLT, Nat.reduceAdd, Nat.reduceMul, Nat.reduceEqDiff, Nat.reduceLeDiff, reduceCtorEq, ↓reduceIte, E106_1, X106_1, k106_1b, b11, g14, g15, g16, b17, b18]
theorem e106_1 (a0 : (List ReCell)) (s : (Int × Int)) (o : (Int ⊕ Unit)) (h : loopP (m106_1b a0) s = some o) : evCL T 0 (.loop k106_1b) (E106_1 a0 s).1 (E106_1 a0 s).2 = some (X106_1 a0 o) :=
  loop_walk (E := E106_1 a0) (X := X106_1 a0) (by intro b; rcases b with b | b <;> (simp only [X106_1]; nofun)) (b106_1 a0) s o h
theorem e106 (a0 : (List ReCell)) (a1 : Int) (r : Int) (h : m106 a0 a1 = some r) : evFL T 106 [.ts .imm 2 (a0.map encReCell), .int .i64 a1] [] = some (.int .i64 r, []) := by
  unfold m106 at h
  rw [evFL_at fn106 (Nat.le_of_ble_eq_true rfl) rfl (.inr rfl) ⟨rfl, rfl⟩]
  try simp -implicitDefEqProofs only [go_sem, Nat.reduceLT, Nat.reduceAdd, Nat.reduceMul, Nat.reduceEqDiff, Nat.reduceLeDiff, reduceCtorEq, ↓reduceIte, i106, c106]
  obtain ⟨o, q19, h⟩ := bnd_some h
  rcases o with v21 | ⟨⟩
  · replace h := selS_l h
    have w20 := e106_1 a0 (a1, 0) (.inl v21) q19
    simp only [E106_1, X106_1] at w20
    try simp -implicitDefEqProofs only [go_sem] at w20
    cases h
    simp -implicitDefEqProofs only [go_sem, Nat.reduceLT, Nat.reduceAdd, Nat.reduceMul, Nat.reduceEqDiff, Nat.reduceLeDiff, reduceCtorEq, ↓reduceIte, i106, c106, w20]
  · replace h := selS_r h
    have w20 := e106_1 a0 (a1, 0) (.inr ()) q19
    simp only [E106_1, X106_1] at w20
    try simp -implicitDefEqProofs only [go_sem] at w20
    cases h
    simp -implicitDefEqProofs only [go_sem, Nat.reduceLT, Nat.reduceAdd, Nat.reduceMul, Nat.reduceEqDiff, Nat.reduceLeDiff, reduceCtorEq, ↓reduceIte, i106, c106, w20]
-- f107 laws.heldActS
theorem call107 (args : List AV) (S : St) : evCall T (evFL T) 107 args S = lendC (evFL T 107) S (lendAll S [[2], [0]] args) := evCall0 fn107 rfl rfl rfl args S
theorem callz107 (args : List AV) (S : St) : evCallFz T (evFL T) 107 args S = lendZ (evFL T 107) S [[0]] (lendAll S [[2], [0]] args) := evCallFz0 fn107 rfl rfl rfl args S
theorem calls107 (args : List AV) (S : St) : evCall (T.at true) (evFL T) 107 args S = lendC (evFL T 107) S (lendAll S [[2], [0]] args) := evCall0 fns107 rfl rfl rfl args S
theorem callsz107 (args : List AV) (S : St) : evCallFz (T.at true) (evFL T) 107 args S = lendZ (evFL T 107) S [[0]] (lendAll S [[2], [0]] args) := evCallFz0 fns107 rfl rfl rfl args S
attribute [go_sem] call107 callz107 calls107 callsz107
noncomputable def X107_1 (a0 : (List Acn)) (o : (Int ⊕ Unit)) : Ex × Fr × St :=
  match o with
  | .inl o => (.exit 0, frOf 31 (upd anyF 1 (.int .i64 o)), [])
  | .inr o => (.ret, frOf 31 (upd anyF 4 (.int .i64 (-1))), [])
noncomputable def E107_1 (a0 : (List Acn)) (s : (Int × Int)) : Fr × St := (frOf 31 (upd (upd (upd anyF 0 (.ts .imm 2 (a0.map encAcn))) 1 (.int .i64 s.1)) 5 (.int .i64 s.2)), [])
theorem b107_1 (a0 : (List Acn)) (s : (Int × Int)) (o : Ctl (Int × Int) (Int ⊕ Unit)) (h : m107_1b a0 s = some o) : evCL T 0 k107_1b (E107_1 a0 s).1 (E107_1 a0 s).2 = some (ctlX (E107_1 a0) (X107_1 a0) o) := by
  unfold m107_1b at h
  obtain ⟨s9, s10⟩ := s
  replace h := sel2_some h
  try simp -implicitDefEqProofs only [go_sem, Nat.reduceLT, Nat.reduceAdd, Nat.reduceMul, Nat.reduceEqDiff, Nat.reduceLeDiff, reduceCtorEq, ↓reduceIte, E107_1, X107_1, k107_1b]
  cases b11 : (ltI s10 (↑a0.length : Int) : Bool)
  · replace h := br_f b11 h
    cases h
    simp -implicitDefEqProofs only [go_sem, Nat.reduceLT, Nat.reduceAdd, Nat.reduceMul, Nat.reduceEqDiff, Nat.reduceLeDiff, reduceCtorEq, ↓reduceIte, E107_1, X107_1, k107_1b, b11]
  · replace h := br_t b11 h
    obtain ⟨x12, q13, h⟩ := bnd_some h
    obtain ⟨g14, g15, g16⟩ := idx_row encAcn q13
    try simp -implicitDefEqProofs only [go_sem] at g15
    try simp -implicitDefEqProofs only [go_sem] at g16
    try simp -implicitDefEqProofs only [go_sem, Nat.reduceLT, Nat.reduceAdd, Nat.reduceMul, Nat.reduceEqDiff, Nat.reduceLeDiff, reduceCtorEq, ↓reduceIte, E107_1, X107_1, k107_1b, b11, g14, g15, g16]
    cases b17 : (eqI x12.kind s9 : Bool)
    · replace h := br_f b17 h
      cases h
      simp -implicitDefEqProofs only [go_sem, Nat.reduceLT, Nat.reduceAdd, Nat.reduceMul, Nat.reduceEqDiff, Nat.reduceLeDiff, reduceCtorEq, ↓reduceIte, E107_1, X107_1, k107_1b, b11, g14, g15, g16, b17]
    · replace h := br_t b17 h
      try simp -implicitDefEqProofs only [go_sem, Nat.reduceLT, Nat.reduceAdd, Nat.reduceMul, Nat.reduceEqDiff, Nat.reduceLeDiff, reduceCtorEq, ↓reduceIte, E107_1, X107_1, k107_1b, b11, g14, g15, g16, b17]
      cases b18 : (eqI x12.n (wadd .i64 s9 1) : Bool)
      · replace h := br_f b18 h
        cases h
        simp -implicitDefEqProofs only [go_sem, Nat.reduceLT, Nat.reduceAdd, Nat.reduceMul, Nat.reduceEqDiff, Nat.reduceLeDiff, reduceCtorEq, ↓reduceIte, E107_1, X107_1, k107_1b, b11, g14, g15, g16, b17, b18]
      · replace h := br_t b18 h
        cases h
        simp -implicitDefEqProofs only [go_sem, Nat.reduceLT, Nat.reduceAdd, Nat.reduceMul, Nat.reduceEqDiff, Nat.reduceLeDiff, reduceCtorEq, ↓reduceIte, E107_1, X107_1, k107_1b, b11, g14, g15, g16, b17, b18]
theorem e107_1 (a0 : (List Acn)) (s : (Int × Int)) (o : (Int ⊕ Unit)) (h : loopP (m107_1b a0) s = some o) : evCL T 0 (.loop k107_1b) (E107_1 a0 s).1 (E107_1 a0 s).2 = some (X107_1 a0 o) :=
  loop_walk (E := E107_1 a0) (X := X107_1 a0) (by intro b; rcases b with b | b <;> (simp only [X107_1]; nofun)) (b107_1 a0) s o h
theorem e107 (a0 : (List Acn)) (a1 : Int) (r : Int) (h : m107 a0 a1 = some r) : evFL T 107 [.ts .imm 2 (a0.map encAcn), .int .i64 a1] [] = some (.int .i64 r, []) := by
  unfold m107 at h
  rw [evFL_at fn107 (Nat.le_of_ble_eq_true rfl) rfl (.inr rfl) ⟨rfl, rfl⟩]
  try simp -implicitDefEqProofs only [go_sem, Nat.reduceLT, Nat.reduceAdd, Nat.reduceMul, Nat.reduceEqDiff, Nat.reduceLeDiff, reduceCtorEq, ↓reduceIte, i107, c107]
  obtain ⟨o, q19, h⟩ := bnd_some h
  rcases o with v21 | ⟨⟩
  · replace h := selS_l h
    have w20 := e107_1 a0 (a1, 0) (.inl v21) q19
    simp only [E107_1, X107_1] at w20
    try simp -implicitDefEqProofs only [go_sem] at w20
    cases h
    simp -implicitDefEqProofs only [go_sem, Nat.reduceLT, Nat.reduceAdd, Nat.reduceMul, Nat.reduceEqDiff, Nat.reduceLeDiff, reduceCtorEq, ↓reduceIte, i107, c107, w20]
  · replace h := selS_r h
    have w20 := e107_1 a0 (a1, 0) (.inr ()) q19
    simp only [E107_1, X107_1] at w20
    try simp -implicitDefEqProofs only [go_sem] at w20
    cases h
    simp -implicitDefEqProofs only [go_sem, Nat.reduceLT, Nat.reduceAdd, Nat.reduceMul, Nat.reduceEqDiff, Nat.reduceLeDiff, reduceCtorEq, ↓reduceIte, i107, c107, w20]
-- f58 laws.heldTermS
theorem call58 (args : List AV) (S : St) : evCall T (evFL T) 58 args S = lendC (evFL T 58) S (lendAll S [[5], [0]] args) := evCall0 fn58 rfl rfl rfl args S
theorem callz58 (args : List AV) (S : St) : evCallFz T (evFL T) 58 args S = lendZ (evFL T 58) S [[0]] (lendAll S [[5], [0]] args) := evCallFz0 fn58 rfl rfl rfl args S
theorem calls58 (args : List AV) (S : St) : evCall (T.at true) (evFL T) 58 args S = lendC (evFL T 58) S (lendAll S [[5], [0]] args) := evCall0 fns58 rfl rfl rfl args S
theorem callsz58 (args : List AV) (S : St) : evCallFz (T.at true) (evFL T) 58 args S = lendZ (evFL T 58) S [[0]] (lendAll S [[5], [0]] args) := evCallFz0 fns58 rfl rfl rfl args S
attribute [go_sem] call58 callz58 calls58 callsz58
noncomputable def X58_1 (a0 : (List Term)) (o : (Int ⊕ Unit)) : Ex × Fr × St :=
  match o with
  | .inl o => (.exit 0, frOf 58 (upd anyF 1 (.int .i64 o)), [])
  | .inr o => (.ret, frOf 58 (upd anyF 4 (.int .i64 (-1))), [])
noncomputable def E58_1 (a0 : (List Term)) (s : (Int × Int)) : Fr × St := (frOf 58 (upd (upd (upd anyF 0 (.ts .imm 5 (a0.map (encTerm .imm)))) 1 (.int .i64 s.1)) 5 (.int .i64 s.2)), [])
theorem b58_1 (a0 : (List Term)) (s : (Int × Int)) (o : Ctl (Int × Int) (Int ⊕ Unit)) (h : m58_1b a0 s = some o) : evCL T 0 k58_1b (E58_1 a0 s).1 (E58_1 a0 s).2 = some (ctlX (E58_1 a0) (X58_1 a0) o) := by
  unfold m58_1b at h
  obtain ⟨s21, s22⟩ := s
  replace h := sel2_some h
  try simp -implicitDefEqProofs only [go_sem, Nat.reduceLT, Nat.reduceAdd, Nat.reduceMul, Nat.reduceEqDiff, Nat.reduceLeDiff, reduceCtorEq, ↓reduceIte, E58_1, X58_1, k58_1b]
  cases b23 : (ltI s22 (↑a0.length : Int) : Bool)
  · replace h := br_f b23 h
    cases h
    simp -implicitDefEqProofs only [go_sem, Nat.reduceLT, Nat.reduceAdd, Nat.reduceMul, Nat.reduceEqDiff, Nat.reduceLeDiff, reduceCtorEq, ↓reduceIte, E58_1, X58_1, k58_1b, b23]
  · replace h := br_t b23 h
    obtain ⟨x24, q25, h⟩ := bnd_some h
    obtain ⟨g26, g27, g28⟩ := idx_row (encTerm .imm) q25
    try simp -implicitDefEqProofs only [go_sem] at g27
    try simp -implicitDefEqProofs only [go_sem] at g28
    obtain ⟨r31, q29, h⟩ := bnd_some h
    have w30 := e105 x24.ranges s21 r31 q29
    try simp -implicitDefEqProofs only [go_sem] at w30
    try simp -implicitDefEqProofs only [go_sem, Nat.reduceLT, Nat.reduceAdd, Nat.reduceMul, Nat.reduceEqDiff, Nat.reduceLeDiff, reduceCtorEq, ↓reduceIte, E58_1, X58_1, k58_1b, b23, g26, g27, g28, w30]
    cases b32 : (ltI r31 0 : Bool)
    · replace h := br_f b32 h
      obtain ⟨r35, q33, h⟩ := bnd_some h
      have w34 := e106 x24.path r31 r35 q33
      try simp -implicitDefEqProofs only [go_sem] at w34
      try simp -implicitDefEqProofs only [go_sem, Nat.reduceLT, Nat.reduceAdd, Nat.reduceMul, Nat.reduceEqDiff, Nat.reduceLeDiff, reduceCtorEq, ↓reduceIte, E58_1, X58_1, k58_1b, b23, g26, g27, g28, w30, b32, w34]
      cases b36 : (ltI r35 0 : Bool)
      · replace h := br_f b36 h
        try simp -implicitDefEqProofs only [go_sem, Nat.reduceLT, Nat.reduceAdd, Nat.reduceMul, Nat.reduceEqDiff, Nat.reduceLeDiff, reduceCtorEq, ↓reduceIte, E58_1, X58_1, k58_1b, b23, g26, g27, g28, w30, b32, w34, b36]
        cases b37 : (eqI x24.comm r35 : Bool)
        · replace h := br_f b37 h
          cases h
          simp -implicitDefEqProofs only [go_sem, Nat.reduceLT, Nat.reduceAdd, Nat.reduceMul, Nat.reduceEqDiff, Nat.reduceLeDiff, reduceCtorEq, ↓reduceIte, E58_1, X58_1, k58_1b, b23, g26, g27, g28, w30, b32, w34, b36, b37]
        · replace h := br_t b37 h
          obtain ⟨r40, q38, h⟩ := bnd_some h
          have w39 := e107 x24.acts (wadd .i64 r35 1) r40 q38
          try simp -implicitDefEqProofs only [go_sem] at w39
          try simp -implicitDefEqProofs only [go_sem, Nat.reduceLT, Nat.reduceAdd, Nat.reduceMul, Nat.reduceEqDiff, Nat.reduceLeDiff, reduceCtorEq, ↓reduceIte, E58_1, X58_1, k58_1b, b23, g26, g27, g28, w30, b32, w34, b36, b37, w39]
          cases b41 : (ltI r40 0 : Bool)
          · replace h := br_f b41 h
            try simp -implicitDefEqProofs only [go_sem, Nat.reduceLT, Nat.reduceAdd, Nat.reduceMul, Nat.reduceEqDiff, Nat.reduceLeDiff, reduceCtorEq, ↓reduceIte, E58_1, X58_1, k58_1b, b23, g26, g27, g28, w30, b32, w34, b36, b37, w39, b41]
            cases b42 : (eqI x24.verdict r40 : Bool)
            · replace h := br_f b42 h
              cases h
              simp -implicitDefEqProofs only [go_sem, Nat.reduceLT, Nat.reduceAdd, Nat.reduceMul, Nat.reduceEqDiff, Nat.reduceLeDiff, reduceCtorEq, ↓reduceIte, E58_1, X58_1, k58_1b, b23, g26, g27, g28, w30, b32, w34, b36, b37, w39, b41, b42]
            · replace h := br_t b42 h
              cases h
              simp -implicitDefEqProofs only [go_sem, Nat.reduceLT, Nat.reduceAdd, Nat.reduceMul, Nat.reduceEqDiff, Nat.reduceLeDiff, reduceCtorEq, ↓reduceIte, E58_1, X58_1, k58_1b, b23, g26, g27, g28, w30, b32, w34, b36, b37, w39, b41, b42]
          · replace h := br_t b41 h
            cases h
            simp -implicitDefEqProofs only [go_sem, Nat.reduceLT, Nat.reduceAdd, Nat.reduceMul, Nat.reduceEqDiff, Nat.reduceLeDiff, reduceCtorEq, ↓reduceIte, E58_1, X58_1, k58_1b, b23, g26, g27, g28, w30, b32, w34, b36, b37, w39, b41]
      · replace h := br_t b36 h
        cases h
        simp -implicitDefEqProofs only [go_sem, Nat.reduceLT, Nat.reduceAdd, Nat.reduceMul, Nat.reduceEqDiff, Nat.reduceLeDiff, reduceCtorEq, ↓reduceIte, E58_1, X58_1, k58_1b, b23, g26, g27, g28, w30, b32, w34, b36]
    · replace h := br_t b32 h
      cases h
      simp -implicitDefEqProofs only [go_sem, Nat.reduceLT, Nat.reduceAdd, Nat.reduceMul, Nat.reduceEqDiff, Nat.reduceLeDiff, reduceCtorEq, ↓reduceIte, E58_1, X58_1, k58_1b, b23, g26, g27, g28, w30, b32]
theorem e58_1 (a0 : (List Term)) (s : (Int × Int)) (o : (Int ⊕ Unit)) (h : loopP (m58_1b a0) s = some o) : evCL T 0 (.loop k58_1b) (E58_1 a0 s).1 (E58_1 a0 s).2 = some (X58_1 a0 o) :=
  loop_walk (E := E58_1 a0) (X := X58_1 a0) (by intro b; rcases b with b | b <;> (simp only [X58_1]; nofun)) (b58_1 a0) s o h
theorem e58 (a0 : (List Term)) (a1 : Int) (r : Int) (h : m58 a0 a1 = some r) : evFL T 58 [.ts .imm 5 (a0.map (encTerm .imm)), .int .i64 a1] [] = some (.int .i64 r, []) := by
  unfold m58 at h
  rw [evFL_at fn58 (Nat.le_of_ble_eq_true rfl) rfl (.inr rfl) ⟨rfl, rfl⟩]
  try simp -implicitDefEqProofs only [go_sem, Nat.reduceLT, Nat.reduceAdd, Nat.reduceMul, Nat.reduceEqDiff, Nat.reduceLeDiff, reduceCtorEq, ↓reduceIte, i58, c58]
  obtain ⟨o, q43, h⟩ := bnd_some h
  rcases o with v45 | ⟨⟩
  · replace h := selS_l h
    have w44 := e58_1 a0 (a1, 0) (.inl v45) q43
    simp only [E58_1, X58_1] at w44
    try simp -implicitDefEqProofs only [go_sem] at w44
    cases h
    simp -implicitDefEqProofs only [go_sem, Nat.reduceLT, Nat.reduceAdd, Nat.reduceMul, Nat.reduceEqDiff, Nat.reduceLeDiff, reduceCtorEq, ↓reduceIte, i58, c58, w44]
  · replace h := selS_r h
    have w44 := e58_1 a0 (a1, 0) (.inr ()) q43
    simp only [E58_1, X58_1] at w44
    try simp -implicitDefEqProofs only [go_sem] at w44
    cases h
    simp -implicitDefEqProofs only [go_sem, Nat.reduceLT, Nat.reduceAdd, Nat.reduceMul, Nat.reduceEqDiff, Nat.reduceLeDiff, reduceCtorEq, ↓reduceIte, i58, c58, w44]
-- f26 laws.heldPolicy
theorem call26 (args : List AV) (S : St) : evCall T (evFL T) 26 args S = lendC (evFL T 26) S (lendAll S [[5, 0], [0]] args) := evCall0 fn26 rfl rfl rfl args S
theorem callz26 (args : List AV) (S : St) : evCallFz T (evFL T) 26 args S = lendZ (evFL T 26) S [[0]] (lendAll S [[5, 0], [0]] args) := evCallFz0 fn26 rfl rfl rfl args S
theorem calls26 (args : List AV) (S : St) : evCall (T.at true) (evFL T) 26 args S = lendC (evFL T 26) S (lendAll S [[5, 0], [0]] args) := evCall0 fns26 rfl rfl rfl args S
theorem callsz26 (args : List AV) (S : St) : evCallFz (T.at true) (evFL T) 26 args S = lendZ (evFL T 26) S [[0]] (lendAll S [[5, 0], [0]] args) := evCallFz0 fns26 rfl rfl rfl args S
attribute [go_sem] call26 callz26 calls26 callsz26
theorem e26 (a0 : Policy) (a1 : Int) (r : Int) (h : m26 a0 a1 = some r) : evFL T 26 [.agg [.ts .imm 5 (a0.terms.map (encTerm .imm)), .bool a0.accept], .int .i64 a1] [] = some (.int .i64 r, []) := by
  unfold m26 at h
  rw [evFL_at fn26 (Nat.le_of_ble_eq_true rfl) rfl (.inr rfl) ⟨rfl, rfl⟩]
  obtain ⟨r3, q1, h⟩ := bnd_some h
  have w2 := e58 a0.terms a1 r3 q1
  try simp -implicitDefEqProofs only [go_sem] at w2
  try simp -implicitDefEqProofs only [go_sem, Nat.reduceLT, Nat.reduceAdd, Nat.reduceMul, Nat.reduceEqDiff, Nat.reduceLeDiff, reduceCtorEq, ↓reduceIte, i26, c26, w2]
  cases b4 : (ltI r3 0 : Bool)
  · replace h := br_f b4 h
    cases h
    simp -implicitDefEqProofs only [go_sem, Nat.reduceLT, Nat.reduceAdd, Nat.reduceMul, Nat.reduceEqDiff, Nat.reduceLeDiff, reduceCtorEq, ↓reduceIte, i26, c26, w2, b4]
  · replace h := br_t b4 h
    cases h
    simp -implicitDefEqProofs only [go_sem, Nat.reduceLT, Nat.reduceAdd, Nat.reduceMul, Nat.reduceEqDiff, Nat.reduceLeDiff, reduceCtorEq, ↓reduceIte, i26, c26, w2, b4]
-- f6 laws.FnExactThenPolicy
noncomputable def X6_1 (r18 : Bool) (r26 : Bool) (a0 : Policy) (a1 : Policy) (r17 : Policy) (r11 : Policy) (r14 : Policy) (r25 : Policy) (o : Bool) : Ex × Fr × St :=
  (.normal, frOf 119 (upd (upd (upd (upd (upd (upd (upd (upd (upd anyF 2 (.ptr 0 0 0)) 3 (.ptr 1 0 0)) 6 (.ptr 2 0 0)) 7 (.bool r18)) 8 (.ptr 4 0 0)) 9 (.ptr 6 0 0)) 10 (.ptr 8 0 0)) 11 (.bool r26)) 53 (.bool o)), [some ⟨.box, 2, [[.ts .imm 5 (a0.terms.map (encTerm .imm)), .bool a0.accept]]⟩, some ⟨.box, 2, [[.ts .imm 5 (a1.terms.map (encTerm .imm)), .bool a1.accept]]⟩, some ⟨.box, 2, [[.sl 3 0 r17.terms.length, .bool r17.accept]]⟩, some ⟨.arr, 5, r17.terms.map (encTerm .own)⟩, some ⟨.box, 2, [[.sl 5 0 r11.terms.length, .bool r11.accept]]⟩, some ⟨.arr, 5, r11.terms.map (encTerm .own)⟩, some ⟨.box, 2, [[.sl 7 0 r14.terms.length, .bool r14.accept]]⟩, some ⟨.arr, 5, r14.terms.map (encTerm .own)⟩, some ⟨.box, 2, [[.sl 9 0 r25.terms.length, .bool r25.accept]]⟩, some ⟨.arr, 5, r25.terms.map (encTerm .own)⟩])
theorem e6_1 (r18 : Bool) (r26 : Bool) (a0 : Policy) (a1 : Policy) (r17 : Policy) (r11 : Policy) (r14 : Policy) (r25 : Policy) (o : Bool) (h : m6_1 r18 r26 r17 r25 = some o) : evCL (T.at true) 0 k6_1 (frOf 119 (upd (upd (upd (upd (upd (upd (upd (upd anyF 2 (.ptr 0 0 0)) 3 (.ptr 1 0 0)) 6 (.ptr 2 0 0)) 7 (.bool r18)) 8 (.ptr 4 0 0)) 9 (.ptr 6 0 0)) 10 (.ptr 8 0 0)) 11 (.bool r26))) [some ⟨.box, 2, [[.ts .imm 5 (a0.terms.map (encTerm .imm)), .bool a0.accept]]⟩, some ⟨.box, 2, [[.ts .imm 5 (a1.terms.map (encTerm .imm)), .bool a1.accept]]⟩, some ⟨.box, 2, [[.sl 3 0 r17.terms.length, .bool r17.accept]]⟩, some ⟨.arr, 5, r17.terms.map (encTerm .own)⟩, some ⟨.box, 2, [[.sl 5 0 r11.terms.length, .bool r11.accept]]⟩, some ⟨.arr, 5, r11.terms.map (encTerm .own)⟩, some ⟨.box, 2, [[.sl 7 0 r14.terms.length, .bool r14.accept]]⟩, some ⟨.arr, 5, r14.terms.map (encTerm .own)⟩, some ⟨.box, 2, [[.sl 9 0 r25.terms.length, .bool r25.accept]]⟩, some ⟨.arr, 5, r25.terms.map (encTerm .own)⟩] = some (X6_1 r18 r26 a0 a1 r17 r11 r14 r25 o) := by
  unfold m6_1 at h
  obtain ⟨r29, q27, h⟩ := bnd_some h
  have w28 := e17 r25 r17 r29 q27
  try simp -implicitDefEqProofs only [go_sem] at w28
  try simp -implicitDefEqProofs only [go_sem, Nat.reduceLT, Nat.reduceAdd, Nat.reduceMul, Nat.reduceEqDiff, Nat.reduceLeDiff, reduceCtorEq, ↓reduceIte, X6_1, k6_1, w28]
  cases b30 : (r29 : Bool)
  · replace h := br_f b30 h
    cases h
    simp -implicitDefEqProofs only [go_sem, Nat.reduceLT, Nat.reduceAdd, Nat.reduceMul, Nat.reduceEqDiff, Nat.reduceLeDiff, reduceCtorEq, ↓reduceIte, X6_1, k6_1, w28, b30]
  · replace h := br_t b30 h
    cases h
    simp -implicitDefEqProofs only [go_sem, Nat.reduceLT, Nat.reduceAdd, Nat.reduceMul, Nat.reduceEqDiff, Nat.reduceLeDiff, reduceCtorEq, ↓reduceIte, X6_1, k6_1, w28, b30]
noncomputable def X6_2 (r18 : Bool) (r26 : Bool) (r54 : Int) (a0 : Policy) (a1 : Policy) (r17 : Policy) (r25 : Policy) (o : Bool) : Ex × Fr × St :=
  (.normal, frOf 119 (upd (upd (upd (upd (upd (upd anyF 2 (.ptr 0 0 0)) 3 (.ptr 1 0 0)) 6 (.ptr 2 0 0)) 7 (.bool r18)) 10 (.ptr 4 0 0)) 82 (.bool o)), [some ⟨.box, 2, [[.ts .imm 5 (a0.terms.map (encTerm .imm)), .bool a0.accept]]⟩, some ⟨.box, 2, [[.ts .imm 5 (a1.terms.map (encTerm .imm)), .bool a1.accept]]⟩, some ⟨.box, 2, [[.sl 3 0 r17.terms.length, .bool r17.accept]]⟩, some ⟨.arr, 5, r17.terms.map (encTerm .own)⟩, some ⟨.box, 2, [[.sl 5 0 r25.terms.length, .bool r25.accept]]⟩, some ⟨.arr, 5, r25.terms.map (encTerm .own)⟩])
theorem e6_2 (r18 : Bool) (r26 : Bool) (r54 : Int) (a0 : Policy) (a1 : Policy) (r17 : Policy) (r25 : Policy) (o : Bool) (h : m6_2 r18 r26 r54 r17 r25 = some o) : evCL (T.at true) 0 k6_2 (frOf 119 (upd (upd (upd (upd (upd (upd (upd anyF 2 (.ptr 0 0 0)) 3 (.ptr 1 0 0)) 6 (.ptr 2 0 0)) 7 (.bool r18)) 10 (.ptr 4 0 0)) 11 (.bool r26)) 12 (.int .i64 r54))) [some ⟨.box, 2, [[.ts .imm 5 (a0.terms.map (encTerm .imm)), .bool a0.accept]]⟩, some ⟨.box, 2, [[.ts .imm 5 (a1.terms.map (encTerm .imm)), .bool a1.accept]]⟩, some ⟨.box, 2, [[.sl 3 0 r17.terms.length, .bool r17.accept]]⟩, some ⟨.arr, 5, r17.terms.map (encTerm .own)⟩, some ⟨.box, 2, [[.sl 5 0 r25.terms.length, .bool r25.accept]]⟩, some ⟨.arr, 5, r25.terms.map (encTerm .own)⟩] = some (X6_2 r18 r26 r54 a0 a1 r17 r25 o) := by
  unfold m6_2 at h
  try simp -implicitDefEqProofs only [go_sem, Nat.reduceLT, Nat.reduceAdd, Nat.reduceMul, Nat.reduceEqDiff, Nat.reduceLeDiff, reduceCtorEq, ↓reduceIte, X6_2, k6_2]
  cases b57 : (ltI r54 0 : Bool)
  · replace h := br_f b57 h
    obtain ⟨r60, q58, h⟩ := bnd_some h
    have w59 := e17 r25 r17 r60 q58
    try simp -implicitDefEqProofs only [go_sem] at w59
    try simp -implicitDefEqProofs only [go_sem, Nat.reduceLT, Nat.reduceAdd, Nat.reduceMul, Nat.reduceEqDiff, Nat.reduceLeDiff, reduceCtorEq, ↓reduceIte, X6_2, k6_2, b57, w59]
    cases b61 : (r60 : Bool)
    · replace h := br_f b61 h
      cases h
      simp -implicitDefEqProofs only [go_sem, Nat.reduceLT, Nat.reduceAdd, Nat.reduceMul, Nat.reduceEqDiff, Nat.reduceLeDiff, reduceCtorEq, ↓reduceIte, X6_2, k6_2, b57, w59, b61]
    · replace h := br_t b61 h
      cases h
      simp -implicitDefEqProofs only [go_sem, Nat.reduceLT, Nat.reduceAdd, Nat.reduceMul, Nat.reduceEqDiff, Nat.reduceLeDiff, reduceCtorEq, ↓reduceIte, X6_2, k6_2, b57, w59, b61]
  · replace h := br_t b57 h
    cases h
    simp -implicitDefEqProofs only [go_sem, Nat.reduceLT, Nat.reduceAdd, Nat.reduceMul, Nat.reduceEqDiff, Nat.reduceLeDiff, reduceCtorEq, ↓reduceIte, X6_2, k6_2, b57]
noncomputable def X6_3 (r18 : Bool) (r68 : Int) (r26 : Bool) (r17 : Policy) (r25 : Policy) (r69 : List Term) (o : Bool) : Ex × Fr × St :=
  (.normal, frOf 119 (upd (upd (upd anyF 10 (.ptr 0 0 0)) 13 (.int .i64 r68)) 110 (.bool o)), [some ⟨.box, 2, [[.sl 1 0 r69.length, .bool r25.accept]]⟩, some ⟨.arr, 5, r69.map (encTerm .own)⟩])
theorem e6_3 (r18 : Bool) (r68 : Int) (r26 : Bool) (r17 : Policy) (r25 : Policy) (r69 : List Term) (o : Bool) (h : m6_3 r18 r26 r17 r25 = some o) : evCL (T.at true) 0 k6_3 (frOf 119 (upd (upd (upd (upd (upd (upd anyF 6 (.ptr 0 0 0)) 7 (.bool r18)) 10 (.ptr 2 0 0)) 13 (.int .i64 r68)) 15 (.ptr 4 0 0)) 16 (.bool r26))) [some ⟨.box, 2, [[.sl 1 0 r17.terms.length, .bool r17.accept]]⟩, some ⟨.arr, 5, r17.terms.map (encTerm .own)⟩, some ⟨.box, 2, [[.sl 3 0 r69.length, .bool r25.accept]]⟩, some ⟨.arr, 5, r69.map (encTerm .own)⟩, some ⟨.box, 2, [[.sl 5 0 r25.terms.length, .bool r25.accept]]⟩, some ⟨.arr, 5, r25.terms.map (encTerm .own)⟩] = some (X6_3 r18 r68 r26 r17 r25 r69 o) := by
  unfold m6_3 at h
  obtain ⟨r84, q82, h⟩ := bnd_some h
  have w83 := e17 r25 r17 r84 q82
  try simp -implicitDefEqProofs only [go_sem] at w83
  try simp -implicitDefEqProofs only [go_sem, Nat.reduceLT, Nat.reduceAdd, Nat.reduceMul, Nat.reduceEqDiff, Nat.reduceLeDiff, reduceCtorEq, ↓reduceIte, X6_3, k6_3, w83]
  cases b85 : (r84 : Bool)
  · replace h := br_f b85 h
    cases h
    simp -implicitDefEqProofs only [go_sem, Nat.reduceLT, Nat.reduceAdd, Nat.reduceMul, Nat.reduceEqDiff, Nat.reduceLeDiff, reduceCtorEq, ↓reduceIte, X6_3, k6_3, w83, b85]
  · replace h := br_t b85 h
    cases h
    simp -implicitDefEqProofs only [go_sem, Nat.reduceLT, Nat.reduceAdd, Nat.reduceMul, Nat.reduceEqDiff, Nat.reduceLeDiff, reduceCtorEq, ↓reduceIte, X6_3, k6_3, w83, b85]
theorem e6 (a0 : Policy) (a1 : Policy) (r : Bool) (h : m6 a0 a1 = some r) : evFL T 6 [.agg [.ts .imm 5 (a0.terms.map (encTerm .imm)), .bool a0.accept], .agg [.ts .imm 5 (a1.terms.map (encTerm .imm)), .bool a1.accept]] [] = some (.bool r, []) := by
  unfold m6 at h
  rw [evFL_atS fn6 (Nat.le_of_ble_eq_true rfl) rfl (.inr rfl) ⟨rfl, rfl⟩]
  obtain ⟨r3, q1, h⟩ := bnd_some h
  have w2 := e13 a0 1048576 r3 q1
  try simp -implicitDefEqProofs only [go_sem] at w2
  try simp -implicitDefEqProofs only [go_sem, Nat.reduceLT, Nat.reduceAdd, Nat.reduceMul, Nat.reduceEqDiff, Nat.reduceLeDiff, reduceCtorEq, ↓reduceIte, i6, c6, w2]
  cases b4 : (ltI r3 0 : Bool)
  · replace h := br_f b4 h
    obtain ⟨r7, q5, h⟩ := bnd_some h
    have w6 := e13 a1 r3 r7 q5
    try simp -implicitDefEqProofs only [go_sem] at w6
    try simp -implicitDefEqProofs only [go_sem, Nat.reduceLT, Nat.reduceAdd, Nat.reduceMul, Nat.reduceEqDiff, Nat.reduceLeDiff, reduceCtorEq, ↓reduceIte, i6, c6, w2, b4, w6]
    cases b8 : (ltI r7 0 : Bool)
    · replace h := br_f b8 h
      obtain ⟨r11, q9, h⟩ := bnd_some h
      have w10 := e15 a0 r11 q9
      try simp -implicitDefEqProofs only [go_sem] at w10
      obtain ⟨r14, q12, h⟩ := bnd_some h
      have w13 := e15 a1 r14 q12
      try simp -implicitDefEqProofs only [go_sem] at w13
      obtain ⟨⟨r17, r18⟩, q15, h⟩ := bnd_some h
      replace h := sel2_some h
      have w16 := e23 r11 r14 (r17, r18) q15
      try simp -implicitDefEqProofs only [go_sem] at w16
      obtain ⟨⟨r25, r26⟩, q23, h⟩ := bnd_some h
      replace h := sel2_some h
      have w24 := e24 r11 r14 (r25, r26) q23
      try simp -implicitDefEqProofs only [go_sem] at w24
      obtain ⟨v33, q31, h⟩ := bnd_some h
      have w32 := e6_1 r18 r26 a0 a1 r17 r11 r14 r25 v33 q31
      simp only [X6_1] at w32
      try simp -implicitDefEqProofs only [go_sem] at w32
      try simp -implicitDefEqProofs only [go_sem, Nat.reduceLT, Nat.reduceAdd, Nat.reduceMul, Nat.reduceEqDiff, Nat.reduceLeDiff, reduceCtorEq, ↓reduceIte, i6, c6, w2, b4, w6, b8, w10, w13, w16, w24, w32]
      cases b34 : (v33 : Bool)
      · replace h := br_f b34 h
        obtain ⟨r39, q37, h⟩ := bnd_some h
        have w38 := e17 r11 r11 r39 q37
        try simp -implicitDefEqProofs only [go_sem] at w38
        try simp -implicitDefEqProofs only [go_sem, Nat.reduceLT, Nat.reduceAdd, Nat.reduceMul, Nat.reduceEqDiff, Nat.reduceLeDiff, reduceCtorEq, ↓reduceIte, i6, c6, w2, b4, w6, b8, w10, w13, w16, w24, w32, b34, w38]
        cases b40 : (r39 : Bool)
        · replace h := br_f b40 h
          cases h
          simp -implicitDefEqProofs only [go_sem, Nat.reduceLT, Nat.reduceAdd, Nat.reduceMul, Nat.reduceEqDiff, Nat.reduceLeDiff, reduceCtorEq, ↓reduceIte, i6, c6, w2, b4, w6, b8, w10, w13, w16, w24, w32, b34, w38, b40]
        · replace h := br_t b40 h
          obtain ⟨r45, q43, h⟩ := bnd_some h
          have w44 := e17 r14 r14 r45 q43
          try simp -implicitDefEqProofs only [go_sem] at w44
          try simp -implicitDefEqProofs only [go_sem, Nat.reduceLT, Nat.reduceAdd, Nat.reduceMul, Nat.reduceEqDiff, Nat.reduceLeDiff, reduceCtorEq, ↓reduceIte, i6, c6, w2, b4, w6, b8, w10, w13, w16, w24, w32, b34, w38, b40, w44]
          cases b46 : (r45 : Bool)
          · replace h := br_f b46 h
            cases h
            simp -implicitDefEqProofs only [go_sem, Nat.reduceLT, Nat.reduceAdd, Nat.reduceMul, Nat.reduceEqDiff, Nat.reduceLeDiff, reduceCtorEq, ↓reduceIte, i6, c6, w2, b4, w6, b8, w10, w13, w16, w24, w32, b34, w38, b40, w44, b46]
          · replace h := br_t b46 h
            obtain ⟨⟨r49, r50⟩, q47, h⟩ := bnd_some h
            replace h := sel2_some h
            have w48 := e25 r11 1 (r49, r50) q47
            try simp -implicitDefEqProofs only [go_sem] at w48
            obtain ⟨g51, h⟩ := ck_some h
            try simp -implicitDefEqProofs only [go_sem] at g51
            obtain ⟨⟨r54, r55⟩, q52, h⟩ := bnd_some h
            replace h := sel2_some h
            have w53 := e25 r14 r49 (r54, r55) q52
            try simp -implicitDefEqProofs only [go_sem, g51] at w53
            obtain ⟨g56, h⟩ := ck_some h
            try simp -implicitDefEqProofs only [go_sem] at g56
            obtain ⟨v64, q62, h⟩ := bnd_some h
            have w63 := e6_2 r18 r26 r54 a0 a1 r17 r25 v64 q62
            simp only [X6_2] at w63
            try simp -implicitDefEqProofs only [go_sem, g51, g56] at w63
            try simp -implicitDefEqProofs only [go_sem, Nat.reduceLT, Nat.reduceAdd, Nat.reduceMul, Nat.reduceEqDiff, Nat.reduceLeDiff, reduceCtorEq, ↓reduceIte, i6, c6, w2, b4, w6, b8, w10, w13, w16, w24, w32, b34, w38, b40, w44, b46, w48, g51, take_of_len_map g51, w53, g56, take_of_len_map g56, w63]
            cases b65 : (v64 : Bool)
            · replace h := br_f b65 h
              obtain ⟨⟨r68, r69⟩, q66, h⟩ := bnd_some h
              replace h := sel2_some h
              have w67 := e25 r25 1 (r68, r69) q66
              try simp -implicitDefEqProofs only [go_sem, g51, g56] at w67
              obtain ⟨g70, h⟩ := ck_some h
              try simp -implicitDefEqProofs only [go_sem] at g70
              obtain ⟨r73, q71, h⟩ := bnd_some h
              have w72 := e26 (⟨r69, r25.accept⟩ : Policy) 1 r73 q71
              try simp -implicitDefEqProofs only [go_sem, g51, g56, g70] at w72
              try simp -implicitDefEqProofs only [go_sem, Nat.reduceLT, Nat.reduceAdd, Nat.reduceMul, Nat.reduceEqDiff, Nat.reduceLeDiff, reduceCtorEq, ↓reduceIte, i6, c6, w2, b4, w6, b8, w10, w13, w16, w24, w32, b34, w38, b40, w44, b46, w48, g51, take_of_len_map g51, w53, g56, take_of_len_map g56, w63, b65, w67, g70, take_of_len_map g70, w72]
              cases b74 : (ltI r73 0 : Bool)
              · replace h := br_f b74 h
                try simp -implicitDefEqProofs only [go_sem, Nat.reduceLT, Nat.reduceAdd, Nat.reduceMul, Nat.reduceEqDiff, Nat.reduceLeDiff, reduceCtorEq, ↓reduceIte, i6, c6, w2, b4, w6, b8, w10, w13, w16, w24, w32, b34, w38, b40, w44, b46, w48, g51, take_of_len_map g51, w53, g56, take_of_len_map g56, w63, b65, w67, g70, take_of_len_map g70, w72, b74]
                cases b75 : (eqI r73 r68 : Bool)
                · replace h := br_f b75 h
                  cases h
                  simp -implicitDefEqProofs only [go_sem, Nat.reduceLT, Nat.reduceAdd, Nat.reduceMul, Nat.reduceEqDiff, Nat.reduceLeDiff, reduceCtorEq, ↓reduceIte, i6, c6, w2, b4, w6, b8, w10, w13, w16, w24, w32, b34, w38, b40, w44, b46, w48, g51, take_of_len_map g51, w53, g56, take_of_len_map g56, w63, b65, w67, g70, take_of_len_map g70, w72, b74, b75]
                · replace h := br_t b75 h
                  obtain ⟨v88, q86, h⟩ := bnd_some h
                  have w87 := e6_3 r18 r68 r26 r17 r25 r69 v88 q86
                  simp only [X6_3] at w87
                  try simp -implicitDefEqProofs only [go_sem, g51, g56, g70] at w87
                  try simp -implicitDefEqProofs only [go_sem, Nat.reduceLT, Nat.reduceAdd, Nat.reduceMul, Nat.reduceEqDiff, Nat.reduceLeDiff, reduceCtorEq, ↓reduceIte, i6, c6, w2, b4, w6, b8, w10, w13, w16, w24, w32, b34, w38, b40, w44, b46, w48, g51, take_of_len_map g51, w53, g56, take_of_len_map g56, w63, b65, w67, g70, take_of_len_map g70, w72, b74, b75, w87]
                  cases b89 : (v88 : Bool)
                  · replace h := br_f b89 h
                    cases h
                    simp -implicitDefEqProofs only [go_sem, Nat.reduceLT, Nat.reduceAdd, Nat.reduceMul, Nat.reduceEqDiff, Nat.reduceLeDiff, reduceCtorEq, ↓reduceIte, i6, c6, w2, b4, w6, b8, w10, w13, w16, w24, w32, b34, w38, b40, w44, b46, w48, g51, take_of_len_map g51, w53, g56, take_of_len_map g56, w63, b65, w67, g70, take_of_len_map g70, w72, b74, b75, w87, b89]
                  · replace h := br_t b89 h
                    cases h
                    simp -implicitDefEqProofs only [go_sem, Nat.reduceLT, Nat.reduceAdd, Nat.reduceMul, Nat.reduceEqDiff, Nat.reduceLeDiff, reduceCtorEq, ↓reduceIte, i6, c6, w2, b4, w6, b8, w10, w13, w16, w24, w32, b34, w38, b40, w44, b46, w48, g51, take_of_len_map g51, w53, g56, take_of_len_map g56, w63, b65, w67, g70, take_of_len_map g70, w72, b74, b75, w87, b89]
              · replace h := br_t b74 h
                cases h
                simp -implicitDefEqProofs only [go_sem, Nat.reduceLT, Nat.reduceAdd, Nat.reduceMul, Nat.reduceEqDiff, Nat.reduceLeDiff, reduceCtorEq, ↓reduceIte, i6, c6, w2, b4, w6, b8, w10, w13, w16, w24, w32, b34, w38, b40, w44, b46, w48, g51, take_of_len_map g51, w53, g56, take_of_len_map g56, w63, b65, w67, g70, take_of_len_map g70, w72, b74]
            · replace h := br_t b65 h
              cases h
              simp -implicitDefEqProofs only [go_sem, Nat.reduceLT, Nat.reduceAdd, Nat.reduceMul, Nat.reduceEqDiff, Nat.reduceLeDiff, reduceCtorEq, ↓reduceIte, i6, c6, w2, b4, w6, b8, w10, w13, w16, w24, w32, b34, w38, b40, w44, b46, w48, g51, take_of_len_map g51, w53, g56, take_of_len_map g56, w63, b65]
      · replace h := br_t b34 h
        cases h
        simp -implicitDefEqProofs only [go_sem, Nat.reduceLT, Nat.reduceAdd, Nat.reduceMul, Nat.reduceEqDiff, Nat.reduceLeDiff, reduceCtorEq, ↓reduceIte, i6, c6, w2, b4, w6, b8, w10, w13, w16, w24, w32, b34]
    · replace h := br_t b8 h
      cases h
      simp -implicitDefEqProofs only [go_sem, Nat.reduceLT, Nat.reduceAdd, Nat.reduceMul, Nat.reduceEqDiff, Nat.reduceLeDiff, reduceCtorEq, ↓reduceIte, i6, c6, w2, b4, w6, b8]
  · replace h := br_t b4 h
    cases h
    simp -implicitDefEqProofs only [go_sem, Nat.reduceLT, Nat.reduceAdd, Nat.reduceMul, Nat.reduceEqDiff, Nat.reduceLeDiff, reduceCtorEq, ↓reduceIte, i6, c6, w2, b4]
end Go.Pi.Ythidbgihjhkjaaa.ThenPolicy
