/- What functions of the program answer, and that the law answers true at every input; no condition -/
import Derived.Test.YtnogicfhdgpdjaaMatchPathFuaMatchPath
set_option linter.all false
/- Functions of the program: that the code answers as the plain functions do, the rest. -/
namespace Go.Pi.Ytnogicfhdgpdjaa.MatchPath
open Go Go.Proofs Go.Pi
set_option maxRecDepth 100000
set_option linter.all false
-- f76 slices.IndexFunc[[]impl.ReCell,impl.ReCell]
theorem call76 (args : List AV) (S : St) : evCall T (evFL T) 76 args S = lendC (evFL T 76) S (lendAll S [[2], [0]] args) := evCall0 fn76 rfl rfl rfl args S
theorem callz76 (args : List AV) (S : St) : evCallFz T (evFL T) 76 args S = lendZ (evFL T 76) S [[0]] (lendAll S [[2], [0]] args) := evCallFz0 fn76 rfl rfl rfl args S
attribute [go_sem] call76 callz76
noncomputable def X76_1 (a1_f : Nat) (a1_c : List AV) (a0 : (List ReCell)) (p1 : Int) (a1 : (ReCell → Option Bool)) (o : (Unit ⊕ Int)) : Ex × Fr × St :=
  match o with
  | .inl o => (.exit 0, frOf 19 (anyF), [])
  | .inr o => (.ret, frOf 19 (upd anyF 4 (.int .i64 o)), [])
noncomputable def E76_1 (a1_f : Nat) (a1_c : List AV) (a0 : (List ReCell)) (p1 : Int) (a1 : (ReCell → Option Bool)) (s : Int) : Fr × St := (frOf 19 (upd (upd (upd (upd anyF 0 (.ts .imm 2 (a0.map encReCell))) 1 (.fn a1_f a1_c)) 7 (.int .i64 p1)) 8 (.int .i64 s)), [])
theorem b76_1 (a0 : (List ReCell)) (p1 : Int) (a1 : (ReCell → Option Bool)) (a1_f : Nat) (a1_c : List AV) (a1_h : ((∀ S, mapO (lendPtr S) a1_c = some a1_c) ∧ (∀ n0 src R tm t c, tdL n0 src R tm t c a1_c = some a1_c)) ∧ ∀ y0 r, a1 y0 = some r → (∀ S, evCall T (evFL T) a1_f ([.agg [.int .i64 y0.kind, .int .i64 y0.n]] ++ a1_c) S = some (.bool r, S)) ∧ (∀ S, evCallFz T (evFL T) a1_f ([.agg [.int .i64 y0.kind, .int .i64 y0.n]] ++ a1_c) S = some (.bool r, S))) (s : Int) (o : Ctl Int (Unit ⊕ Int)) (h : m76_1b a0 p1 a1 s = some o) : evCL T 0 k76_1b (E76_1 a1_f a1_c a0 p1 a1 s).1 (E76_1 a1_f a1_c a0 p1 a1 s).2 = some (ctlX (E76_1 a1_f a1_c a0 p1 a1) (X76_1 a1_f a1_c a0 p1 a1) o) := by
  unfold m76_1b at h
  revert h
  generalize s = s12
  intro h
  try simp -implicitDefEqProofs only [go_sem, Nat.reduceLT, Nat.reduceAdd, Nat.reduceSub, Nat.reduceMul, Nat.reduceEqDiff, Nat.reduceBEq, Nat.reduceLeDiff, Int.reduceToNat, Int.reduceLT, Int.reduceLE, Int.reduceEq, reduceCtorEq, ↓reduceIte, E76_1, X76_1, k76_1b, a1_h.1]
  cases b13 : (ltI s12 p1 : Bool)
  · replace h := br_f b13 h
    cases h
    simp -implicitDefEqProofs only [go_sem, Nat.reduceLT, Nat.reduceAdd, Nat.reduceSub, Nat.reduceMul, Nat.reduceEqDiff, Nat.reduceBEq, Nat.reduceLeDiff, Int.reduceToNat, Int.reduceLT, Int.reduceLE, Int.reduceEq, reduceCtorEq, ↓reduceIte, E76_1, X76_1, k76_1b, a1_h.1, b13]
  · replace h := br_t b13 h
    obtain ⟨x14, q15, h⟩ := bnd_some h
    obtain ⟨g16, g17, g18⟩ := idx_row encReCell q15
    try simp -implicitDefEqProofs only [go_sem, Nat.reduceLT, Nat.reduceAdd, Nat.reduceSub, Nat.reduceMul, Nat.reduceEqDiff, Nat.reduceBEq, Nat.reduceLeDiff, Int.reduceToNat, Int.reduceLT, Int.reduceLE, Int.reduceEq, reduceCtorEq, ↓reduceIte] at g17
    try simp -implicitDefEqProofs only [go_sem, Nat.reduceLT, Nat.reduceAdd, Nat.reduceSub, Nat.reduceMul, Nat.reduceEqDiff, Nat.reduceBEq, Nat.reduceLeDiff, Int.reduceToNat, Int.reduceLT, Int.reduceLE, Int.reduceEq, reduceCtorEq, ↓reduceIte] at g18
    obtain ⟨r19, q20, h⟩ := bnd_some h
    have w21 := a1_h.2 x14 r19 q20
    try simp -implicitDefEqProofs only [go_sem, Nat.reduceLT, Nat.reduceAdd, Nat.reduceSub, Nat.reduceMul, Nat.reduceEqDiff, Nat.reduceBEq, Nat.reduceLeDiff, Int.reduceToNat, Int.reduceLT, Int.reduceLE, Int.reduceEq, reduceCtorEq, ↓reduceIte] at w21
    try simp -implicitDefEqProofs only [go_sem, Nat.reduceLT, Nat.reduceAdd, Nat.reduceSub, Nat.reduceMul, Nat.reduceEqDiff, Nat.reduceBEq, Nat.reduceLeDiff, Int.reduceToNat, Int.reduceLT, Int.reduceLE, Int.reduceEq, reduceCtorEq, ↓reduceIte, E76_1, X76_1, k76_1b, a1_h.1, b13, g16, g17, g18, w21.1, w21.2]
    cases b22 : (r19 : Bool)
    · replace h := br_f b22 h
      cases h
      simp -implicitDefEqProofs only [go_sem, Nat.reduceLT, Nat.reduceAdd, Nat.reduceSub, Nat.reduceMul, Nat.reduceEqDiff, Nat.reduceBEq, Nat.reduceLeDiff, Int.reduceToNat, Int.reduceLT, Int.reduceLE, Int.reduceEq, reduceCtorEq, ↓reduceIte, E76_1, X76_1, k76_1b, a1_h.1, b13, g16, g17, g18, w21.1, w21.2, b22]
    · replace h := br_t b22 h
      cases h
      simp -implicitDefEqProofs only [go_sem, Nat.reduceLT, Nat.reduceAdd, Nat.reduceSub, Nat.reduceMul, Nat.reduceEqDiff, Nat.reduceBEq, Nat.reduceLeDiff, Int.reduceToNat, Int.reduceLT, Int.reduceLE, Int.reduceEq, reduceCtorEq, ↓reduceIte, E76_1, X76_1, k76_1b, a1_h.1, b13, g16, g17, g18, w21.1, w21.2, b22]
theorem e76_1 (a0 : (List ReCell)) (p1 : Int) (a1 : (ReCell → Option Bool)) (a1_f : Nat) (a1_c : List AV) (a1_h : ((∀ S, mapO (lendPtr S) a1_c = some a1_c) ∧ (∀ n0 src R tm t c, tdL n0 src R tm t c a1_c = some a1_c)) ∧ ∀ y0 r, a1 y0 = some r → (∀ S, evCall T (evFL T) a1_f ([.agg [.int .i64 y0.kind, .int .i64 y0.n]] ++ a1_c) S = some (.bool r, S)) ∧ (∀ S, evCallFz T (evFL T) a1_f ([.agg [.int .i64 y0.kind, .int .i64 y0.n]] ++ a1_c) S = some (.bool r, S))) (s : Int) (o : (Unit ⊕ Int)) (h : loopP (m76_1b a0 p1 a1) s = some o) : evCL T 0 (.loop k76_1b) (E76_1 a1_f a1_c a0 p1 a1 s).1 (E76_1 a1_f a1_c a0 p1 a1 s).2 = some (X76_1 a1_f a1_c a0 p1 a1 o) :=
  loop_walk (E := E76_1 a1_f a1_c a0 p1 a1) (X := X76_1 a1_f a1_c a0 p1 a1) (by intro b; rcases b with b | b <;> (simp only [X76_1]; nofun)) (b76_1 a0 p1 a1 a1_f a1_c a1_h) s o h
theorem e76 (a0 : (List ReCell)) (a1 : (ReCell → Option Bool)) (a1_f : Nat) (a1_c : List AV) (a1_h : ((∀ S, mapO (lendPtr S) a1_c = some a1_c) ∧ (∀ n0 src R tm t c, tdL n0 src R tm t c a1_c = some a1_c)) ∧ ∀ y0 r, a1 y0 = some r → (∀ S, evCall T (evFL T) a1_f ([.agg [.int .i64 y0.kind, .int .i64 y0.n]] ++ a1_c) S = some (.bool r, S)) ∧ (∀ S, evCallFz T (evFL T) a1_f ([.agg [.int .i64 y0.kind, .int .i64 y0.n]] ++ a1_c) S = some (.bool r, S))) (r : Int) (h : m76 a0 a1 = some r) : evFL T 76 [.ts .imm 2 (a0.map encReCell), .fn a1_f a1_c] [] = some (.int .i64 r, []) := by
  unfold m76 at h
  rw [evFL_at fn76 (Nat.le_of_ble_eq_true rfl) rfl (.inr rfl) ⟨rfl, rfl⟩]
  try simp -implicitDefEqProofs only [go_sem, Nat.reduceLT, Nat.reduceAdd, Nat.reduceSub, Nat.reduceMul, Nat.reduceEqDiff, Nat.reduceBEq, Nat.reduceLeDiff, Int.reduceToNat, Int.reduceLT, Int.reduceLE, Int.reduceEq, reduceCtorEq, ↓reduceIte, i76, c76, a1_h.1]
  obtain ⟨o, q23, h⟩ := bnd_some h
  rcases o with ⟨⟩ | v25
  · replace h := selS_l h
    have w24 := e76_1 a0 (↑a0.length : Int) a1 a1_f a1_c a1_h 0 (.inl ()) q23
    simp only [E76_1, X76_1] at w24
    try simp -implicitDefEqProofs only [go_sem, Nat.reduceLT, Nat.reduceAdd, Nat.reduceSub, Nat.reduceMul, Nat.reduceEqDiff, Nat.reduceBEq, Nat.reduceLeDiff, Int.reduceToNat, Int.reduceLT, Int.reduceLE, Int.reduceEq, reduceCtorEq, ↓reduceIte] at w24
    cases h
    simp -implicitDefEqProofs only [go_sem, Nat.reduceLT, Nat.reduceAdd, Nat.reduceSub, Nat.reduceMul, Nat.reduceEqDiff, Nat.reduceBEq, Nat.reduceLeDiff, Int.reduceToNat, Int.reduceLT, Int.reduceLE, Int.reduceEq, reduceCtorEq, ↓reduceIte, i76, c76, a1_h.1, w24]
  · replace h := selS_r h
    have w24 := e76_1 a0 (↑a0.length : Int) a1 a1_f a1_c a1_h 0 (.inr v25) q23
    simp only [E76_1, X76_1] at w24
    try simp -implicitDefEqProofs only [go_sem, Nat.reduceLT, Nat.reduceAdd, Nat.reduceSub, Nat.reduceMul, Nat.reduceEqDiff, Nat.reduceBEq, Nat.reduceLeDiff, Int.reduceToNat, Int.reduceLT, Int.reduceLE, Int.reduceEq, reduceCtorEq, ↓reduceIte] at w24
    cases h
    simp -implicitDefEqProofs only [go_sem, Nat.reduceLT, Nat.reduceAdd, Nat.reduceSub, Nat.reduceMul, Nat.reduceEqDiff, Nat.reduceBEq, Nat.reduceLeDiff, Int.reduceToNat, Int.reduceLT, Int.reduceLE, Int.reduceEq, reduceCtorEq, ↓reduceIte, i76, c76, a1_h.1, w24]
-- f52 slices.ContainsFunc[[]impl.ReCell,impl.ReCell]
theorem call52 (args : List AV) (S : St) : evCall T (evFL T) 52 args S = lendC (evFL T 52) S (lendAll S [[2], [0]] args) := evCall0 fn52 rfl rfl rfl args S
theorem callz52 (args : List AV) (S : St) : evCallFz T (evFL T) 52 args S = lendZ (evFL T 52) S [[0]] (lendAll S [[2], [0]] args) := evCallFz0 fn52 rfl rfl rfl args S
attribute [go_sem] call52 callz52
theorem e52 (a0 : (List ReCell)) (a1 : (ReCell → Option Bool)) (a1_f : Nat) (a1_c : List AV) (a1_h : ((∀ S, mapO (lendPtr S) a1_c = some a1_c) ∧ (∀ n0 src R tm t c, tdL n0 src R tm t c a1_c = some a1_c)) ∧ ∀ y0 r, a1 y0 = some r → (∀ S, evCall T (evFL T) a1_f ([.agg [.int .i64 y0.kind, .int .i64 y0.n]] ++ a1_c) S = some (.bool r, S)) ∧ (∀ S, evCallFz T (evFL T) a1_f ([.agg [.int .i64 y0.kind, .int .i64 y0.n]] ++ a1_c) S = some (.bool r, S))) (r : Bool) (h : m52 a0 a1 = some r) : evFL T 52 [.ts .imm 2 (a0.map encReCell), .fn a1_f a1_c] [] = some (.bool r, []) := by
  unfold m52 at h
  rw [evFL_at fn52 (Nat.le_of_ble_eq_true rfl) rfl (.inr rfl) ⟨rfl, rfl⟩]
  obtain ⟨r3, q1, h⟩ := bnd_some h
  have w2 := e76 a0 a1 a1_f a1_c a1_h r3 q1
  try simp -implicitDefEqProofs only [go_sem, Nat.reduceLT, Nat.reduceAdd, Nat.reduceSub, Nat.reduceMul, Nat.reduceEqDiff, Nat.reduceBEq, Nat.reduceLeDiff, Int.reduceToNat, Int.reduceLT, Int.reduceLE, Int.reduceEq, reduceCtorEq, ↓reduceIte] at w2
  cases h
  simp -implicitDefEqProofs only [go_sem, Nat.reduceLT, Nat.reduceAdd, Nat.reduceSub, Nat.reduceMul, Nat.reduceEqDiff, Nat.reduceBEq, Nat.reduceLeDiff, Int.reduceToNat, Int.reduceLT, Int.reduceLE, Int.reduceEq, reduceCtorEq, ↓reduceIte, i52, c52, a1_h.1, w2]
-- f41 impl.isAsn
theorem call41 (args : List AV) (S : St) : evCall T (evFL T) 41 args S = lendC (evFL T 41) S (lendAll S [[0]] args) := evCall0 fn41 rfl rfl rfl args S
theorem callz41 (args : List AV) (S : St) : evCallFz T (evFL T) 41 args S = lendZ (evFL T 41) S [[0]] (lendAll S [[0]] args) := evCallFz0 fn41 rfl rfl rfl args S
attribute [go_sem] call41 callz41
theorem e41 (a0 : Int) (r : Bool) (h : m41 a0 = some r) : evFL T 41 [.int .i64 a0] [] = some (.bool r, []) := by
  unfold m41 at h
  rw [evFL_at fn41 (Nat.le_of_ble_eq_true rfl) rfl (.inr rfl) ⟨rfl, rfl⟩]
  obtain ⟨r3, q1, h⟩ := bnd_some h
  have w2 := e51 a0 1 65535 r3 q1
  try simp -implicitDefEqProofs only [go_sem, Nat.reduceLT, Nat.reduceAdd, Nat.reduceSub, Nat.reduceMul, Nat.reduceEqDiff, Nat.reduceBEq, Nat.reduceLeDiff, Int.reduceToNat, Int.reduceLT, Int.reduceLE, Int.reduceEq, reduceCtorEq, ↓reduceIte] at w2
  cases h
  simp -implicitDefEqProofs only [go_sem, Nat.reduceLT, Nat.reduceAdd, Nat.reduceSub, Nat.reduceMul, Nat.reduceEqDiff, Nat.reduceBEq, Nat.reduceLeDiff, Int.reduceToNat, Int.reduceLT, Int.reduceLE, Int.reduceEq, reduceCtorEq, ↓reduceIte, i41, c41, w2]
-- f53 impl.GoodRegex$1
theorem call53 (args : List AV) (S : St) : evCall T (evFL T) 53 args S = lendC (evFL T 53) S (lendAll S [[0, 0]] args) := evCall0 fn53 rfl rfl rfl args S
theorem callz53 (args : List AV) (S : St) : evCallFz T (evFL T) 53 args S = lendZ (evFL T 53) S [[0]] (lendAll S [[0, 0]] args) := evCallFz0 fn53 rfl rfl rfl args S
attribute [go_sem] call53 callz53
noncomputable def X53_1 (a0 : ReCell) (o : Bool) : Ex × Fr × St :=
  (.normal, frOf 22 (upd anyF 2 (.bool o)), [])
theorem e53_1 (a0 : ReCell) (o : Bool) (h : m53_1 a0 = some o) : evCL T 0 k53_1 (frOf 22 (upd anyF 1 (.ptr 0 0 0))) [some ⟨.box, 2, [[.int .i64 a0.kind, .int .i64 a0.n]]⟩] = some (X53_1 a0 o) := by
  unfold m53_1 at h
  try simp -implicitDefEqProofs only [go_sem, Nat.reduceLT, Nat.reduceAdd, Nat.reduceSub, Nat.reduceMul, Nat.reduceEqDiff, Nat.reduceBEq, Nat.reduceLeDiff, Int.reduceToNat, Int.reduceLT, Int.reduceLE, Int.reduceEq, reduceCtorEq, ↓reduceIte, X53_1, k53_1]
  cases b1 : (eqI a0.kind 3 : Bool)
  · replace h := br_f b1 h
    cases h
    simp -implicitDefEqProofs only [go_sem, Nat.reduceLT, Nat.reduceAdd, Nat.reduceSub, Nat.reduceMul, Nat.reduceEqDiff, Nat.reduceBEq, Nat.reduceLeDiff, Int.reduceToNat, Int.reduceLT, Int.reduceLE, Int.reduceEq, reduceCtorEq, ↓reduceIte, X53_1, k53_1, b1]
  · replace h := br_t b1 h
    obtain ⟨r4, q2, h⟩ := bnd_some h
    have w3 := e41 a0.n r4 q2
    try simp -implicitDefEqProofs only [go_sem, Nat.reduceLT, Nat.reduceAdd, Nat.reduceSub, Nat.reduceMul, Nat.reduceEqDiff, Nat.reduceBEq, Nat.reduceLeDiff, Int.reduceToNat, Int.reduceLT, Int.reduceLE, Int.reduceEq, reduceCtorEq, ↓reduceIte] at w3
    try simp -implicitDefEqProofs only [go_sem, Nat.reduceLT, Nat.reduceAdd, Nat.reduceSub, Nat.reduceMul, Nat.reduceEqDiff, Nat.reduceBEq, Nat.reduceLeDiff, Int.reduceToNat, Int.reduceLT, Int.reduceLE, Int.reduceEq, reduceCtorEq, ↓reduceIte, X53_1, k53_1, b1, w3]
    cases b5 : (r4 : Bool)
    · replace h := br_f b5 h
      cases h
      simp -implicitDefEqProofs only [go_sem, Nat.reduceLT, Nat.reduceAdd, Nat.reduceSub, Nat.reduceMul, Nat.reduceEqDiff, Nat.reduceBEq, Nat.reduceLeDiff, Int.reduceToNat, Int.reduceLT, Int.reduceLE, Int.reduceEq, reduceCtorEq, ↓reduceIte, X53_1, k53_1, b1, w3, b5]
    · replace h := br_t b5 h
      cases h
      simp -implicitDefEqProofs only [go_sem, Nat.reduceLT, Nat.reduceAdd, Nat.reduceSub, Nat.reduceMul, Nat.reduceEqDiff, Nat.reduceBEq, Nat.reduceLeDiff, Int.reduceToNat, Int.reduceLT, Int.reduceLE, Int.reduceEq, reduceCtorEq, ↓reduceIte, X53_1, k53_1, b1, w3, b5]
theorem e53 (a0 : ReCell) (r : Bool) (h : m53 a0 = some r) : evFL T 53 [.agg [.int .i64 a0.kind, .int .i64 a0.n]] [] = some (.bool r, []) := by
  unfold m53 at h
  rw [evFL_at fn53 (Nat.le_of_ble_eq_true rfl) rfl (.inr rfl) ⟨rfl, rfl⟩]
  obtain ⟨v8, q6, h⟩ := bnd_some h
  have w7 := e53_1 a0 v8 q6
  simp only [X53_1] at w7
  try simp -implicitDefEqProofs only [go_sem, Nat.reduceLT, Nat.reduceAdd, Nat.reduceSub, Nat.reduceMul, Nat.reduceEqDiff, Nat.reduceBEq, Nat.reduceLeDiff, Int.reduceToNat, Int.reduceLT, Int.reduceLE, Int.reduceEq, reduceCtorEq, ↓reduceIte] at w7
  cases h
  simp -implicitDefEqProofs only [go_sem, Nat.reduceLT, Nat.reduceAdd, Nat.reduceSub, Nat.reduceMul, Nat.reduceEqDiff, Nat.reduceBEq, Nat.reduceLeDiff, Int.reduceToNat, Int.reduceLT, Int.reduceLE, Int.reduceEq, reduceCtorEq, ↓reduceIte, i53, c53, w7]
-- f21 impl.GoodRegex
theorem call21 (args : List AV) (S : St) : evCall T (evFL T) 21 args S = lendC (evFL T 21) S (lendAll S [[2]] args) := evCall0 fn21 rfl rfl rfl args S
theorem callz21 (args : List AV) (S : St) : evCallFz T (evFL T) 21 args S = lendZ (evFL T 21) S [[0]] (lendAll S [[2]] args) := evCallFz0 fn21 rfl rfl rfl args S
attribute [go_sem] call21 callz21
noncomputable def X21_1 (a0 : (List ReCell)) (o : Bool) : Ex × Fr × St :=
  (.normal, frOf 17 (upd (upd anyF 0 (.ts .imm 2 (a0.map encReCell))) 13 (.bool o)), [])
theorem e21_1 (a0 : (List ReCell)) (o : Bool) (h : m21_1 a0 = some o) : evCL T 0 k21_1 (frOf 17 (upd anyF 0 (.ts .imm 2 (a0.map encReCell)))) [] = some (X21_1 a0 o) := by
  unfold m21_1 at h
  obtain ⟨r3, q1, h⟩ := bnd_some h
  have w2 := e51 (↑a0.length : Int) 1 30 r3 q1
  try simp -implicitDefEqProofs only [go_sem, Nat.reduceLT, Nat.reduceAdd, Nat.reduceSub, Nat.reduceMul, Nat.reduceEqDiff, Nat.reduceBEq, Nat.reduceLeDiff, Int.reduceToNat, Int.reduceLT, Int.reduceLE, Int.reduceEq, reduceCtorEq, ↓reduceIte] at w2
  try simp -implicitDefEqProofs only [go_sem, Nat.reduceLT, Nat.reduceAdd, Nat.reduceSub, Nat.reduceMul, Nat.reduceEqDiff, Nat.reduceBEq, Nat.reduceLeDiff, Int.reduceToNat, Int.reduceLT, Int.reduceLE, Int.reduceEq, reduceCtorEq, ↓reduceIte, X21_1, k21_1, w2]
  cases b4 : (r3 : Bool)
  · replace h := br_f b4 h
    cases h
    simp -implicitDefEqProofs only [go_sem, Nat.reduceLT, Nat.reduceAdd, Nat.reduceSub, Nat.reduceMul, Nat.reduceEqDiff, Nat.reduceBEq, Nat.reduceLeDiff, Int.reduceToNat, Int.reduceLT, Int.reduceLE, Int.reduceEq, reduceCtorEq, ↓reduceIte, X21_1, k21_1, w2, b4]
  · replace h := br_t b4 h
    obtain ⟨r7, q5, h⟩ := bnd_some h
    have w6 := e49 a0 0 r7 q5
    try simp -implicitDefEqProofs only [go_sem, Nat.reduceLT, Nat.reduceAdd, Nat.reduceSub, Nat.reduceMul, Nat.reduceEqDiff, Nat.reduceBEq, Nat.reduceLeDiff, Int.reduceToNat, Int.reduceLT, Int.reduceLE, Int.reduceEq, reduceCtorEq, ↓reduceIte] at w6
    cases h
    simp -implicitDefEqProofs only [go_sem, Nat.reduceLT, Nat.reduceAdd, Nat.reduceSub, Nat.reduceMul, Nat.reduceEqDiff, Nat.reduceBEq, Nat.reduceLeDiff, Int.reduceToNat, Int.reduceLT, Int.reduceLE, Int.reduceEq, reduceCtorEq, ↓reduceIte, X21_1, k21_1, w2, b4, w6]
theorem e21 (a0 : (List ReCell)) (r : Bool) (h : m21 a0 = some r) : evFL T 21 [.ts .imm 2 (a0.map encReCell)] [] = some (.bool r, []) := by
  unfold m21 at h
  rw [evFL_at fn21 (Nat.le_of_ble_eq_true rfl) rfl (.inr rfl) ⟨rfl, rfl⟩]
  obtain ⟨v10, q8, h⟩ := bnd_some h
  have w9 := e21_1 a0 v10 q8
  simp only [X21_1] at w9
  try simp -implicitDefEqProofs only [go_sem, Nat.reduceLT, Nat.reduceAdd, Nat.reduceSub, Nat.reduceMul, Nat.reduceEqDiff, Nat.reduceBEq, Nat.reduceLeDiff, Int.reduceToNat, Int.reduceLT, Int.reduceLE, Int.reduceEq, reduceCtorEq, ↓reduceIte] at w9
  try simp -implicitDefEqProofs only [go_sem, Nat.reduceLT, Nat.reduceAdd, Nat.reduceSub, Nat.reduceMul, Nat.reduceEqDiff, Nat.reduceBEq, Nat.reduceLeDiff, Int.reduceToNat, Int.reduceLT, Int.reduceLE, Int.reduceEq, reduceCtorEq, ↓reduceIte, i21, c21, w9]
  cases b11 : (v10 : Bool)
  · replace h := br_f b11 h
    obtain ⟨r14, q12, h⟩ := bnd_some h
    have w13 := e52 a0 (fun y0 => m53 y0) 53 [] ⟨⟨fun S => by simp -implicitDefEqProofs only [go_sem, Nat.reduceLT, Nat.reduceAdd, Nat.reduceSub, Nat.reduceMul, Nat.reduceEqDiff, Nat.reduceBEq, Nat.reduceLeDiff, Int.reduceToNat, Int.reduceLT, Int.reduceLE, Int.reduceEq, reduceCtorEq, ↓reduceIte], fun _ _ _ _ _ _ => by simp -implicitDefEqProofs only [go_sem, Nat.reduceLT, Nat.reduceAdd, Nat.reduceSub, Nat.reduceMul, Nat.reduceEqDiff, Nat.reduceBEq, Nat.reduceLeDiff, Int.reduceToNat, Int.reduceLT, Int.reduceLE, Int.reduceEq, reduceCtorEq, ↓reduceIte]⟩, fun y0 r h => ⟨fun S => by simp -implicitDefEqProofs only [go_sem, Nat.reduceLT, Nat.reduceAdd, Nat.reduceSub, Nat.reduceMul, Nat.reduceEqDiff, Nat.reduceBEq, Nat.reduceLeDiff, Int.reduceToNat, Int.reduceLT, Int.reduceLE, Int.reduceEq, reduceCtorEq, ↓reduceIte, e53 y0 r h], fun S => by simp -implicitDefEqProofs only [go_sem, Nat.reduceLT, Nat.reduceAdd, Nat.reduceSub, Nat.reduceMul, Nat.reduceEqDiff, Nat.reduceBEq, Nat.reduceLeDiff, Int.reduceToNat, Int.reduceLT, Int.reduceLE, Int.reduceEq, reduceCtorEq, ↓reduceIte, e53 y0 r h]⟩⟩ r14 q12
    try simp -implicitDefEqProofs only [go_sem, Nat.reduceLT, Nat.reduceAdd, Nat.reduceSub, Nat.reduceMul, Nat.reduceEqDiff, Nat.reduceBEq, Nat.reduceLeDiff, Int.reduceToNat, Int.reduceLT, Int.reduceLE, Int.reduceEq, reduceCtorEq, ↓reduceIte] at w13
    cases h
    simp -implicitDefEqProofs only [go_sem, Nat.reduceLT, Nat.reduceAdd, Nat.reduceSub, Nat.reduceMul, Nat.reduceEqDiff, Nat.reduceBEq, Nat.reduceLeDiff, Int.reduceToNat, Int.reduceLT, Int.reduceLE, Int.reduceEq, reduceCtorEq, ↓reduceIte, i21, c21, w9, b11, w13]
  · replace h := br_t b11 h
    cases h
    simp -implicitDefEqProofs only [go_sem, Nat.reduceLT, Nat.reduceAdd, Nat.reduceSub, Nat.reduceMul, Nat.reduceEqDiff, Nat.reduceBEq, Nat.reduceLeDiff, Int.reduceToNat, Int.reduceLT, Int.reduceLE, Int.reduceEq, reduceCtorEq, ↓reduceIte, i21, c21, w9, b11]
-- f79 slices.IndexFunc[[]int,int]
theorem call79 (args : List AV) (S : St) : evCall T (evFL T) 79 args S = lendC (evFL T 79) S (lendAll S [[1], [0]] args) := evCall0 fn79 rfl rfl rfl args S
theorem callz79 (args : List AV) (S : St) : evCallFz T (evFL T) 79 args S = lendZ (evFL T 79) S [[0]] (lendAll S [[1], [0]] args) := evCallFz0 fn79 rfl rfl rfl args S
attribute [go_sem] call79 callz79
noncomputable def X79_1 (a1_f : Nat) (a1_c : List AV) (a0 : (List Int)) (p1 : Int) (a1 : (Int → Option Bool)) (o : (Unit ⊕ Int)) : Ex × Fr × St :=
  match o with
  | .inl o => (.exit 0, frOf 19 (anyF), [])
  | .inr o => (.ret, frOf 19 (upd anyF 4 (.int .i64 o)), [])
noncomputable def E79_1 (a1_f : Nat) (a1_c : List AV) (a0 : (List Int)) (p1 : Int) (a1 : (Int → Option Bool)) (s : Int) : Fr × St := (frOf 19 (upd (upd (upd (upd anyF 0 (.ts .imm 1 (a0.map encInt))) 1 (.fn a1_f a1_c)) 7 (.int .i64 p1)) 8 (.int .i64 s)), [])
theorem b79_1 (a0 : (List Int)) (p1 : Int) (a1 : (Int → Option Bool)) (a1_f : Nat) (a1_c : List AV) (a1_h : ((∀ S, mapO (lendPtr S) a1_c = some a1_c) ∧ (∀ n0 src R tm t c, tdL n0 src R tm t c a1_c = some a1_c)) ∧ ∀ y0 r, a1 y0 = some r → (∀ S, evCall T (evFL T) a1_f ([.int .i64 y0] ++ a1_c) S = some (.bool r, S)) ∧ (∀ S, evCallFz T (evFL T) a1_f ([.int .i64 y0] ++ a1_c) S = some (.bool r, S))) (s : Int) (o : Ctl Int (Unit ⊕ Int)) (h : m79_1b a0 p1 a1 s = some o) : evCL T 0 k79_1b (E79_1 a1_f a1_c a0 p1 a1 s).1 (E79_1 a1_f a1_c a0 p1 a1 s).2 = some (ctlX (E79_1 a1_f a1_c a0 p1 a1) (X79_1 a1_f a1_c a0 p1 a1) o) := by
  unfold m79_1b at h
  revert h
  generalize s = s12
  intro h
  try simp -implicitDefEqProofs only [go_sem, Nat.reduceLT, Nat.reduceAdd, Nat.reduceSub, Nat.reduceMul, Nat.reduceEqDiff, Nat.reduceBEq, Nat.reduceLeDiff, Int.reduceToNat, Int.reduceLT, Int.reduceLE, Int.reduceEq, reduceCtorEq, ↓reduceIte, E79_1, X79_1, k79_1b, a1_h.1]
  cases b13 : (ltI s12 p1 : Bool)
  · replace h := br_f b13 h
    cases h
    simp -implicitDefEqProofs only [go_sem, Nat.reduceLT, Nat.reduceAdd, Nat.reduceSub, Nat.reduceMul, Nat.reduceEqDiff, Nat.reduceBEq, Nat.reduceLeDiff, Int.reduceToNat, Int.reduceLT, Int.reduceLE, Int.reduceEq, reduceCtorEq, ↓reduceIte, E79_1, X79_1, k79_1b, a1_h.1, b13]
  · replace h := br_t b13 h
    obtain ⟨x14, q15, h⟩ := bnd_some h
    obtain ⟨g16, g17, g18⟩ := idx_row encInt q15
    try simp -implicitDefEqProofs only [go_sem, Nat.reduceLT, Nat.reduceAdd, Nat.reduceSub, Nat.reduceMul, Nat.reduceEqDiff, Nat.reduceBEq, Nat.reduceLeDiff, Int.reduceToNat, Int.reduceLT, Int.reduceLE, Int.reduceEq, reduceCtorEq, ↓reduceIte] at g17
    try simp -implicitDefEqProofs only [go_sem, Nat.reduceLT, Nat.reduceAdd, Nat.reduceSub, Nat.reduceMul, Nat.reduceEqDiff, Nat.reduceBEq, Nat.reduceLeDiff, Int.reduceToNat, Int.reduceLT, Int.reduceLE, Int.reduceEq, reduceCtorEq, ↓reduceIte] at g18
    obtain ⟨r19, q20, h⟩ := bnd_some h
    have w21 := a1_h.2 x14 r19 q20
    try simp -implicitDefEqProofs only [go_sem, Nat.reduceLT, Nat.reduceAdd, Nat.reduceSub, Nat.reduceMul, Nat.reduceEqDiff, Nat.reduceBEq, Nat.reduceLeDiff, Int.reduceToNat, Int.reduceLT, Int.reduceLE, Int.reduceEq, reduceCtorEq, ↓reduceIte] at w21
    try simp -implicitDefEqProofs only [go_sem, Nat.reduceLT, Nat.reduceAdd, Nat.reduceSub, Nat.reduceMul, Nat.reduceEqDiff, Nat.reduceBEq, Nat.reduceLeDiff, Int.reduceToNat, Int.reduceLT, Int.reduceLE, Int.reduceEq, reduceCtorEq, ↓reduceIte, E79_1, X79_1, k79_1b, a1_h.1, b13, g16, g17, g18, w21.1, w21.2]
    cases b22 : (r19 : Bool)
    · replace h := br_f b22 h
      cases h
      simp -implicitDefEqProofs only [go_sem, Nat.reduceLT, Nat.reduceAdd, Nat.reduceSub, Nat.reduceMul, Nat.reduceEqDiff, Nat.reduceBEq, Nat.reduceLeDiff, Int.reduceToNat, Int.reduceLT, Int.reduceLE, Int.reduceEq, reduceCtorEq, ↓reduceIte, E79_1, X79_1, k79_1b, a1_h.1, b13, g16, g17, g18, w21.1, w21.2, b22]
    · replace h := br_t b22 h
      cases h
      simp -implicitDefEqProofs only [go_sem, Nat.reduceLT, Nat.reduceAdd, Nat.reduceSub, Nat.reduceMul, Nat.reduceEqDiff, Nat.reduceBEq, Nat.reduceLeDiff, Int.reduceToNat, Int.reduceLT, Int.reduceLE, Int.reduceEq, reduceCtorEq, ↓reduceIte, E79_1, X79_1, k79_1b, a1_h.1, b13, g16, g17, g18, w21.1, w21.2, b22]
theorem e79_1 (a0 : (List Int)) (p1 : Int) (a1 : (Int → Option Bool)) (a1_f : Nat) (a1_c : List AV) (a1_h : ((∀ S, mapO (lendPtr S) a1_c = some a1_c) ∧ (∀ n0 src R tm t c, tdL n0 src R tm t c a1_c = some a1_c)) ∧ ∀ y0 r, a1 y0 = some r → (∀ S, evCall T (evFL T) a1_f ([.int .i64 y0] ++ a1_c) S = some (.bool r, S)) ∧ (∀ S, evCallFz T (evFL T) a1_f ([.int .i64 y0] ++ a1_c) S = some (.bool r, S))) (s : Int) (o : (Unit ⊕ Int)) (h : loopP (m79_1b a0 p1 a1) s = some o) : evCL T 0 (.loop k79_1b) (E79_1 a1_f a1_c a0 p1 a1 s).1 (E79_1 a1_f a1_c a0 p1 a1 s).2 = some (X79_1 a1_f a1_c a0 p1 a1 o) :=
  loop_walk (E := E79_1 a1_f a1_c a0 p1 a1) (X := X79_1 a1_f a1_c a0 p1 a1) (by intro b; rcases b with b | b <;> (simp only [X79_1]; nofun)) (b79_1 a0 p1 a1 a1_f a1_c a1_h) s o h
theorem e79 (a0 : (List Int)) (a1 : (Int → Option Bool)) (a1_f : Nat) (a1_c : List AV) (a1_h : ((∀ S, mapO (lendPtr S) a1_c = some a1_c) ∧ (∀ n0 src R tm t c, tdL n0 src R tm t c a1_c = some a1_c)) ∧ ∀ y0 r, a1 y0 = some r → (∀ S, evCall T (evFL T) a1_f ([.int .i64 y0] ++ a1_c) S = some (.bool r, S)) ∧ (∀ S, evCallFz T (evFL T) a1_f ([.int .i64 y0] ++ a1_c) S = some (.bool r, S))) (r : Int) (h : m79 a0 a1 = some r) : evFL T 79 [.ts .imm 1 (a0.map encInt), .fn a1_f a1_c] [] = some (.int .i64 r, []) := by
  unfold m79 at h
  rw [evFL_at fn79 (Nat.le_of_ble_eq_true rfl) rfl (.inr rfl) ⟨rfl, rfl⟩]
  try simp -implicitDefEqProofs only [go_sem, Nat.reduceLT, Nat.reduceAdd, Nat.reduceSub, Nat.reduceMul, Nat.reduceEqDiff, Nat.reduceBEq, Nat.reduceLeDiff, Int.reduceToNat, Int.reduceLT, Int.reduceLE, Int.reduceEq, reduceCtorEq, ↓reduceIte, i79, c79, a1_h.1]
  obtain ⟨o, q23, h⟩ := bnd_some h
  rcases o with ⟨⟩ | v25
  · replace h := selS_l h
    have w24 := e79_1 a0 (↑a0.length : Int) a1 a1_f a1_c a1_h 0 (.inl ()) q23
    simp only [E79_1, X79_1] at w24
    try simp -implicitDefEqProofs only [go_sem, Nat.reduceLT, Nat.reduceAdd, Nat.reduceSub, Nat.reduceMul, Nat.reduceEqDiff, Nat.reduceBEq, Nat.reduceLeDiff, Int.reduceToNat, Int.reduceLT, Int.reduceLE, Int.reduceEq, reduceCtorEq, ↓reduceIte] at w24
    cases h
    simp -implicitDefEqProofs only [go_sem, Nat.reduceLT, Nat.reduceAdd, Nat.reduceSub, Nat.reduceMul, Nat.reduceEqDiff, Nat.reduceBEq, Nat.reduceLeDiff, Int.reduceToNat, Int.reduceLT, Int.reduceLE, Int.reduceEq, reduceCtorEq, ↓reduceIte, i79, c79, a1_h.1, w24]
  · replace h := selS_r h
    have w24 := e79_1 a0 (↑a0.length : Int) a1 a1_f a1_c a1_h 0 (.inr v25) q23
    simp only [E79_1, X79_1] at w24
    try simp -implicitDefEqProofs only [go_sem, Nat.reduceLT, Nat.reduceAdd, Nat.reduceSub, Nat.reduceMul, Nat.reduceEqDiff, Nat.reduceBEq, Nat.reduceLeDiff, Int.reduceToNat, Int.reduceLT, Int.reduceLE, Int.reduceEq, reduceCtorEq, ↓reduceIte] at w24
    cases h
    simp -implicitDefEqProofs only [go_sem, Nat.reduceLT, Nat.reduceAdd, Nat.reduceSub, Nat.reduceMul, Nat.reduceEqDiff, Nat.reduceBEq, Nat.reduceLeDiff, Int.reduceToNat, Int.reduceLT, Int.reduceLE, Int.reduceEq, reduceCtorEq, ↓reduceIte, i79, c79, a1_h.1, w24]
-- f63 slices.ContainsFunc[[]int,int]
theorem call63 (args : List AV) (S : St) : evCall T (evFL T) 63 args S = lendC (evFL T 63) S (lendAll S [[1], [0]] args) := evCall0 fn63 rfl rfl rfl args S
theorem callz63 (args : List AV) (S : St) : evCallFz T (evFL T) 63 args S = lendZ (evFL T 63) S [[0]] (lendAll S [[1], [0]] args) := evCallFz0 fn63 rfl rfl rfl args S
attribute [go_sem] call63 callz63
theorem e63 (a0 : (List Int)) (a1 : (Int → Option Bool)) (a1_f : Nat) (a1_c : List AV) (a1_h : ((∀ S, mapO (lendPtr S) a1_c = some a1_c) ∧ (∀ n0 src R tm t c, tdL n0 src R tm t c a1_c = some a1_c)) ∧ ∀ y0 r, a1 y0 = some r → (∀ S, evCall T (evFL T) a1_f ([.int .i64 y0] ++ a1_c) S = some (.bool r, S)) ∧ (∀ S, evCallFz T (evFL T) a1_f ([.int .i64 y0] ++ a1_c) S = some (.bool r, S))) (r : Bool) (h : m63 a0 a1 = some r) : evFL T 63 [.ts .imm 1 (a0.map encInt), .fn a1_f a1_c] [] = some (.bool r, []) := by
  unfold m63 at h
  rw [evFL_at fn63 (Nat.le_of_ble_eq_true rfl) rfl (.inr rfl) ⟨rfl, rfl⟩]
  obtain ⟨r3, q1, h⟩ := bnd_some h
  have w2 := e79 a0 a1 a1_f a1_c a1_h r3 q1
  try simp -implicitDefEqProofs only [go_sem, Nat.reduceLT, Nat.reduceAdd, Nat.reduceSub, Nat.reduceMul, Nat.reduceEqDiff, Nat.reduceBEq, Nat.reduceLeDiff, Int.reduceToNat, Int.reduceLT, Int.reduceLE, Int.reduceEq, reduceCtorEq, ↓reduceIte] at w2
  cases h
  simp -implicitDefEqProofs only [go_sem, Nat.reduceLT, Nat.reduceAdd, Nat.reduceSub, Nat.reduceMul, Nat.reduceEqDiff, Nat.reduceBEq, Nat.reduceLeDiff, Int.reduceToNat, Int.reduceLT, Int.reduceLE, Int.reduceEq, reduceCtorEq, ↓reduceIte, i63, c63, a1_h.1, w2]
-- f64 impl.isPath$1
theorem call64 (args : List AV) (S : St) : evCall T (evFL T) 64 args S = lendC (evFL T 64) S (lendAll S [[0]] args) := evCall0 fn64 rfl rfl rfl args S
theorem callz64 (args : List AV) (S : St) : evCallFz T (evFL T) 64 args S = lendZ (evFL T 64) S [[0]] (lendAll S [[0]] args) := evCallFz0 fn64 rfl rfl rfl args S
attribute [go_sem] call64 callz64
theorem e64 (a0 : Int) (r : Bool) (h : m64 a0 = some r) : evFL T 64 [.int .i64 a0] [] = some (.bool r, []) := by
  unfold m64 at h
  rw [evFL_at fn64 (Nat.le_of_ble_eq_true rfl) rfl (.inr rfl) ⟨rfl, rfl⟩]
  obtain ⟨r3, q1, h⟩ := bnd_some h
  have w2 := e41 a0 r3 q1
  try simp -implicitDefEqProofs only [go_sem, Nat.reduceLT, Nat.reduceAdd, Nat.reduceSub, Nat.reduceMul, Nat.reduceEqDiff, Nat.reduceBEq, Nat.reduceLeDiff, Int.reduceToNat, Int.reduceLT, Int.reduceLE, Int.reduceEq, reduceCtorEq, ↓reduceIte] at w2
  cases h
  simp -implicitDefEqProofs only [go_sem, Nat.reduceLT, Nat.reduceAdd, Nat.reduceSub, Nat.reduceMul, Nat.reduceEqDiff, Nat.reduceBEq, Nat.reduceLeDiff, Int.reduceToNat, Int.reduceLT, Int.reduceLE, Int.reduceEq, reduceCtorEq, ↓reduceIte, i64, c64, w2]
-- f33 impl.isPath
theorem call33 (args : List AV) (S : St) : evCall T (evFL T) 33 args S = lendC (evFL T 33) S (lendAll S [[1]] args) := evCall0 fn33 rfl rfl rfl args S
theorem callz33 (args : List AV) (S : St) : evCallFz T (evFL T) 33 args S = lendZ (evFL T 33) S [[0]] (lendAll S [[1]] args) := evCallFz0 fn33 rfl rfl rfl args S
attribute [go_sem] call33 callz33
noncomputable def X33_1 (a0 : (List Int)) (o : Bool) : Ex × Fr × St :=
  (.normal, frOf 11 (upd anyF 2 (.bool o)), [])
theorem e33_1 (a0 : (List Int)) (o : Bool) (h : m33_1 a0 = some o) : evCL T 0 k33_1 (frOf 11 (upd anyF 0 (.ts .imm 1 (a0.map encInt)))) [] = some (X33_1 a0 o) := by
  unfold m33_1 at h
  try simp -implicitDefEqProofs only [go_sem, Nat.reduceLT, Nat.reduceAdd, Nat.reduceSub, Nat.reduceMul, Nat.reduceEqDiff, Nat.reduceBEq, Nat.reduceLeDiff, Int.reduceToNat, Int.reduceLT, Int.reduceLE, Int.reduceEq, reduceCtorEq, ↓reduceIte, X33_1, k33_1]
  cases b1 : (leI (↑a0.length : Int) 10 : Bool)
  · replace h := br_f b1 h
    cases h
    simp -implicitDefEqProofs only [go_sem, Nat.reduceLT, Nat.reduceAdd, Nat.reduceSub, Nat.reduceMul, Nat.reduceEqDiff, Nat.reduceBEq, Nat.reduceLeDiff, Int.reduceToNat, Int.reduceLT, Int.reduceLE, Int.reduceEq, reduceCtorEq, ↓reduceIte, X33_1, k33_1, b1]
  · replace h := br_t b1 h
    obtain ⟨r4, q2, h⟩ := bnd_some h
    have w3 := e63 a0 (fun y0 => m64 y0) 64 [] ⟨⟨fun S => by simp -implicitDefEqProofs only [go_sem, Nat.reduceLT, Nat.reduceAdd, Nat.reduceSub, Nat.reduceMul, Nat.reduceEqDiff, Nat.reduceBEq, Nat.reduceLeDiff, Int.reduceToNat, Int.reduceLT, Int.reduceLE, Int.reduceEq, reduceCtorEq, ↓reduceIte], fun _ _ _ _ _ _ => by simp -implicitDefEqProofs only [go_sem, Nat.reduceLT, Nat.reduceAdd, Nat.reduceSub, Nat.reduceMul, Nat.reduceEqDiff, Nat.reduceBEq, Nat.reduceLeDiff, Int.reduceToNat, Int.reduceLT, Int.reduceLE, Int.reduceEq, reduceCtorEq, ↓reduceIte]⟩, fun y0 r h => ⟨fun S => by simp -implicitDefEqProofs only [go_sem, Nat.reduceLT, Nat.reduceAdd, Nat.reduceSub, Nat.reduceMul, Nat.reduceEqDiff, Nat.reduceBEq, Nat.reduceLeDiff, Int.reduceToNat, Int.reduceLT, Int.reduceLE, Int.reduceEq, reduceCtorEq, ↓reduceIte, e64 y0 r h], fun S => by simp -implicitDefEqProofs only [go_sem, Nat.reduceLT, Nat.reduceAdd, Nat.reduceSub, Nat.reduceMul, Nat.reduceEqDiff, Nat.reduceBEq, Nat.reduceLeDiff, Int.reduceToNat, Int.reduceLT, Int.reduceLE, Int.reduceEq, reduceCtorEq, ↓reduceIte, e64 y0 r h]⟩⟩ r4 q2
    try simp -implicitDefEqProofs only [go_sem, Nat.reduceLT, Nat.reduceAdd, Nat.reduceSub, Nat.reduceMul, Nat.reduceEqDiff, Nat.reduceBEq, Nat.reduceLeDiff, Int.reduceToNat, Int.reduceLT, Int.reduceLE, Int.reduceEq, reduceCtorEq, ↓reduceIte] at w3
    cases h
    simp -implicitDefEqProofs only [go_sem, Nat.reduceLT, Nat.reduceAdd, Nat.reduceSub, Nat.reduceMul, Nat.reduceEqDiff, Nat.reduceBEq, Nat.reduceLeDiff, Int.reduceToNat, Int.reduceLT, Int.reduceLE, Int.reduceEq, reduceCtorEq, ↓reduceIte, X33_1, k33_1, b1, w3]
theorem e33 (a0 : (List Int)) (r : Bool) (h : m33 a0 = some r) : evFL T 33 [.ts .imm 1 (a0.map encInt)] [] = some (.bool r, []) := by
  unfold m33 at h
  rw [evFL_at fn33 (Nat.le_of_ble_eq_true rfl) rfl (.inr rfl) ⟨rfl, rfl⟩]
  obtain ⟨v7, q5, h⟩ := bnd_some h
  have w6 := e33_1 a0 v7 q5
  simp only [X33_1] at w6
  try simp -implicitDefEqProofs only [go_sem, Nat.reduceLT, Nat.reduceAdd, Nat.reduceSub, Nat.reduceMul, Nat.reduceEqDiff, Nat.reduceBEq, Nat.reduceLeDiff, Int.reduceToNat, Int.reduceLT, Int.reduceLE, Int.reduceEq, reduceCtorEq, ↓reduceIte] at w6
  cases h
  simp -implicitDefEqProofs only [go_sem, Nat.reduceLT, Nat.reduceAdd, Nat.reduceSub, Nat.reduceMul, Nat.reduceEqDiff, Nat.reduceBEq, Nat.reduceLeDiff, Int.reduceToNat, Int.reduceLT, Int.reduceLE, Int.reduceEq, reduceCtorEq, ↓reduceIte, i33, c33, w6]
-- f42 impl.treeOf
theorem call42 (args : List AV) (S : St) : evCall T (evFL T) 42 args S = treeC false (evFL T 42) S args (lendAll S [[2]] args) := evCallT fn42 rfl rfl rfl args S
attribute [go_sem] call42
noncomputable def X42_1 (r9 : Int) (x1 : ReCell) (o : (List ReCell × List pattern)) : Ex × Fr × St :=
  (.exit 0, frOf 41 (upd (upd anyF 4 (.ptr 0 0 0)) 5 (.ts .imm 2 (o.1.map encReCell))), [some ⟨.box, 3, [[.int .i64 x1.kind, .int .i64 x1.n, .sl 1 0 o.2.length]]⟩, some ⟨.arr, 1, o.2.map (encPpattern .imm)⟩])
noncomputable def E42_1 (r9 : Int) (x1 : ReCell) (s : (List ReCell × Int × List pattern)) : Fr × St := (frOf 41 (upd (upd (upd (upd anyF 4 (.ptr 0 0 0)) 5 (.ts .imm 2 (s.1.map encReCell))) 19 (.int .i64 r9)) 20 (.int .i64 s.2.1)), [some ⟨.box, 3, [[.int .i64 x1.kind, .int .i64 x1.n, .sl 1 0 s.2.2.length]]⟩, some ⟨.arr, 1, s.2.2.map (encPpattern .imm)⟩])
theorem b42_1 (rc : (List ReCell) → Option (pattern × (List ReCell))) (hrc : ∀ (a0 : (List ReCell)) (r : (pattern × (List ReCell))), rc a0 = some r → evFL T 42 [.ts .imm 2 (a0.map encReCell)] [] = some (.tup [.tp .imm 3 [encpattern .imm r.1] 0 0, .ts .imm 2 (r.2.map encReCell)], [])) (r9 : Int) (x1 : ReCell) (s : (List ReCell × Int × List pattern)) (o : Ctl (List ReCell × Int × List pattern) (List ReCell × List pattern)) (h : m42_1b rc r9 s = some o) : evCL T 0 k42_1b (E42_1 r9 x1 s).1 (E42_1 r9 x1 s).2 = some (ctlX (E42_1 r9 x1) (X42_1 r9 x1) o) := by
  unfold m42_1b at h
  obtain ⟨s16, s17, s18⟩ := s
  replace h := sel3_some h
  try simp -implicitDefEqProofs only [go_sem, Nat.reduceLT, Nat.reduceAdd, Nat.reduceSub, Nat.reduceMul, Nat.reduceEqDiff, Nat.reduceBEq, Nat.reduceLeDiff, Int.reduceToNat, Int.reduceLT, Int.reduceLE, Int.reduceEq, reduceCtorEq, ↓reduceIte, E42_1, X42_1, k42_1b]
  cases b19 : (ltI s17 r9 : Bool)
  · replace h := br_f b19 h
    cases h
    simp -implicitDefEqProofs only [go_sem, Nat.reduceLT, Nat.reduceAdd, Nat.reduceSub, Nat.reduceMul, Nat.reduceEqDiff, Nat.reduceBEq, Nat.reduceLeDiff, Int.reduceToNat, Int.reduceLT, Int.reduceLE, Int.reduceEq, reduceCtorEq, ↓reduceIte, E42_1, X42_1, k42_1b, b19]
  · replace h := br_t b19 h
    obtain ⟨⟨r22, r23⟩, q20, h⟩ := bnd_some h
    replace h := sel2_some h
    have w21 := hrc s16 (r22, r23) q20
    try simp -implicitDefEqProofs only [go_sem, Nat.reduceLT, Nat.reduceAdd, Nat.reduceSub, Nat.reduceMul, Nat.reduceEqDiff, Nat.reduceBEq, Nat.reduceLeDiff, Int.reduceToNat, Int.reduceLT, Int.reduceLE, Int.reduceEq, reduceCtorEq, ↓reduceIte] at w21
    obtain ⟨g24, h⟩ := ck_some h
    try simp -implicitDefEqProofs only [go_sem, Nat.reduceLT, Nat.reduceAdd, Nat.reduceSub, Nat.reduceMul, Nat.reduceEqDiff, Nat.reduceBEq, Nat.reduceLeDiff, Int.reduceToNat, Int.reduceLT, Int.reduceLE, Int.reduceEq, reduceCtorEq, ↓reduceIte] at g24
    cases h
    simp -implicitDefEqProofs only [go_sem, Nat.reduceLT, Nat.reduceAdd, Nat.reduceSub, Nat.reduceMul, Nat.reduceEqDiff, Nat.reduceBEq, Nat.reduceLeDiff, Int.reduceToNat, Int.reduceLT, Int.reduceLE, Int.reduceEq, reduceCtorEq, ↓reduceIte, E42_1, X42_1, k42_1b, b19, w21, g24]
theorem e42_1 (rc : (List ReCell) → Option (pattern × (List ReCell))) (hrc : ∀ (a0 : (List ReCell)) (r : (pattern × (List ReCell))), rc a0 = some r → evFL T 42 [.ts .imm 2 (a0.map encReCell)] [] = some (.tup [.tp .imm 3 [encpattern .imm r.1] 0 0, .ts .imm 2 (r.2.map encReCell)], [])) (r9 : Int) (x1 : ReCell) (s : (List ReCell × Int × List pattern)) (o : (List ReCell × List pattern)) (h : loopP (m42_1b rc r9) s = some o) : evCL T 0 (.loop k42_1b) (E42_1 r9 x1 s).1 (E42_1 r9 x1 s).2 = some (X42_1 r9 x1 o) :=
  loop_walk (E := E42_1 r9 x1) (X := X42_1 r9 x1) (by intro b; (simp only [X42_1]; nofun)) (b42_1 rc hrc r9 x1) s o h
theorem e42r (rc : (List ReCell) → Option (pattern × (List ReCell))) (hrc : ∀ (a0 : (List ReCell)) (r : (pattern × (List ReCell))), rc a0 = some r → evFL T 42 [.ts .imm 2 (a0.map encReCell)] [] = some (.tup [.tp .imm 3 [encpattern .imm r.1] 0 0, .ts .imm 2 (r.2.map encReCell)], [])) (a0 : (List ReCell)) (r : (pattern × (List ReCell))) (h : m42r rc a0 = some r) : evFL T 42 [.ts .imm 2 (a0.map encReCell)] [] = some (.tup [.tp .imm 3 [encpattern .imm r.1] 0 0, .ts .imm 2 (r.2.map encReCell)], []) := by
  unfold m42r at h
  rw [evFL_at fn42 (Nat.le_of_ble_eq_true rfl) rfl (.inr rfl) ⟨rfl, rfl⟩]
  obtain ⟨x1, q2, h⟩ := bnd_some h
  obtain ⟨g3, g4, g5⟩ := idx_row encReCell q2
  try simp -implicitDefEqProofs only [go_sem, Nat.reduceLT, Nat.reduceAdd, Nat.reduceSub, Nat.reduceMul, Nat.reduceEqDiff, Nat.reduceBEq, Nat.reduceLeDiff, Int.reduceToNat, Int.reduceLT, Int.reduceLE, Int.reduceEq, reduceCtorEq, ↓reduceIte] at g4
  try simp -implicitDefEqProofs only [go_sem, Nat.reduceLT, Nat.reduceAdd, Nat.reduceSub, Nat.reduceMul, Nat.reduceEqDiff, Nat.reduceBEq, Nat.reduceLeDiff, Int.reduceToNat, Int.reduceLT, Int.reduceLE, Int.reduceEq, reduceCtorEq, ↓reduceIte] at g5
  obtain ⟨g6, h⟩ := ck_some h
  try simp -implicitDefEqProofs only [go_sem, Nat.reduceLT, Nat.reduceAdd, Nat.reduceSub, Nat.reduceMul, Nat.reduceEqDiff, Nat.reduceBEq, Nat.reduceLeDiff, Int.reduceToNat, Int.reduceLT, Int.reduceLE, Int.reduceEq, reduceCtorEq, ↓reduceIte] at g6
  obtain ⟨r9, q7, h⟩ := bnd_some h
  have w8 := e67 x1.kind r9 q7
  try simp -implicitDefEqProofs only [go_sem, Nat.reduceLT, Nat.reduceAdd, Nat.reduceSub, Nat.reduceMul, Nat.reduceEqDiff, Nat.reduceBEq, Nat.reduceLeDiff, Int.reduceToNat, Int.reduceLT, Int.reduceLE, Int.reduceEq, reduceCtorEq, ↓reduceIte] at w8
  obtain ⟨⟨v27, v28⟩, q25, h⟩ := bnd_some h
  replace h := sel2_some h
  have w26 := e42_1 rc hrc r9 x1 (a0.drop 1, 0, []) (v27, v28) q25
  simp only [E42_1, X42_1] at w26
  try simp -implicitDefEqProofs only [go_sem, Nat.reduceLT, Nat.reduceAdd, Nat.reduceSub, Nat.reduceMul, Nat.reduceEqDiff, Nat.reduceBEq, Nat.reduceLeDiff, Int.reduceToNat, Int.reduceLT, Int.reduceLE, Int.reduceEq, reduceCtorEq, ↓reduceIte] at w26
  cases h
  simp -implicitDefEqProofs only [go_sem, Nat.reduceLT, Nat.reduceAdd, Nat.reduceSub, Nat.reduceMul, Nat.reduceEqDiff, Nat.reduceBEq, Nat.reduceLeDiff, Int.reduceToNat, Int.reduceLT, Int.reduceLE, Int.reduceEq, reduceCtorEq, ↓reduceIte, i42, c42, g3, g4, g5, g6, w8, w26]
theorem e42k : ∀ (k : Nat) (a0 : (List ReCell)) (r : (pattern × (List ReCell))) (h : m42k k a0 = some r), evFL T 42 [.ts .imm 2 (a0.map encReCell)] [] = some (.tup [.tp .imm 3 [encpattern .imm r.1] 0 0, .ts .imm 2 (r.2.map encReCell)], []) := by
  intro k
  induction k with
  | zero => intro a0 r h; cases h
  | succ k ih => intro a0 r h; exact e42r (m42k k) (fun a0 r h => ih a0 r h) a0 r h
theorem e42 (a0 : (List ReCell)) (r : (pattern × (List ReCell))) (h : m42 a0 = some r) : evFL T 42 [.ts .imm 2 (a0.map encReCell)] [] = some (.tup [.tp .imm 3 [encpattern .imm r.1] 0 0, .ts .imm 2 (r.2.map encReCell)], []) := by
  obtain ⟨N, hN⟩ := limO_iff.1 h
  exact e42k N a0 r (hN N (Nat.le_refl N))
-- f68 impl.of
theorem call68 (args : List AV) (S : St) : evCall T (evFL T) 68 args S = treeC false (evFL T 68) S args (lendAll S [[0], [1]] args) := evCallT fn68 rfl rfl rfl args S
attribute [go_sem] call68
theorem e68 (a0 : Int) (a1 : (List pattern)) (r : pattern) (h : m68 a0 a1 = some r) : evFL T 68 [.int .i64 a0, .ts .imm 1 (a1.map (encPpattern .imm))] [] = some (.tp .imm 3 [encpattern .imm r] 0 0, []) := by
  unfold m68 at h
  rw [evFL_at fn68 (Nat.le_of_ble_eq_true rfl) rfl (.inr rfl) ⟨rfl, rfl⟩]
  cases h
  simp -implicitDefEqProofs only [go_sem, Nat.reduceLT, Nat.reduceAdd, Nat.reduceSub, Nat.reduceMul, Nat.reduceEqDiff, Nat.reduceBEq, Nat.reduceLeDiff, Int.reduceToNat, Int.reduceLT, Int.reduceLE, Int.reduceEq, reduceCtorEq, ↓reduceIte, i68, c68]
-- f58 (*impl.pattern).empty
theorem call58 (args : List AV) (S : St) : evCall T (evFL T) 58 args S = lendC (evFL T 58) S (lendAll S [[0]] args) := evCall0 fn58 rfl rfl rfl args S
theorem callz58 (args : List AV) (S : St) : evCallFz T (evFL T) 58 args S = lendZ (evFL T 58) S [[0]] (lendAll S [[0]] args) := evCallFz0 fn58 rfl rfl rfl args S
attribute [go_sem] call58 callz58
noncomputable def X58_1 (a0 : pattern) (p1 : Bool) (o : Bool) : Ex × Fr × St :=
  (.normal, frOf 47 (upd (upd (upd anyF 0 (.tp .imm 3 [encpattern .imm a0] 0 0)) 7 (.int .i64 a0.cell.kind)) 8 (.bool o)), [])
theorem e58_1 (rc : pattern → Option Bool) (hrc : ∀ (a0 : pattern) (r : Bool), rc a0 = some r → evFL T 58 [.tp .imm 3 [encpattern .imm a0] 0 0] [] = some (.bool r, [])) (a0 : pattern) (p1 : Bool) (o : Bool) (h : m58_1 rc a0 p1 = some o) : evCL T 0 k58_1 (frOf 47 (upd (upd (upd anyF 0 (.tp .imm 3 [encpattern .imm a0] 0 0)) 7 (.int .i64 a0.cell.kind)) 8 (.bool p1))) [] = some (X58_1 a0 p1 o) := by
  unfold m58_1 at h
  try simp -implicitDefEqProofs only [go_sem, Nat.reduceLT, Nat.reduceAdd, Nat.reduceSub, Nat.reduceMul, Nat.reduceEqDiff, Nat.reduceBEq, Nat.reduceLeDiff, Int.reduceToNat, Int.reduceLT, Int.reduceLE, Int.reduceEq, reduceCtorEq, ↓reduceIte, X58_1, k58_1]
  cases b2 : (p1 : Bool)
  · replace h := br_f b2 h
    cases h
    simp -implicitDefEqProofs only [go_sem, Nat.reduceLT, Nat.reduceAdd, Nat.reduceSub, Nat.reduceMul, Nat.reduceEqDiff, Nat.reduceBEq, Nat.reduceLeDiff, Int.reduceToNat, Int.reduceLT, Int.reduceLE, Int.reduceEq, reduceCtorEq, ↓reduceIte, X58_1, k58_1, b2]
  · replace h := br_t b2 h
    cases h
    simp -implicitDefEqProofs only [go_sem, Nat.reduceLT, Nat.reduceAdd, Nat.reduceSub, Nat.reduceMul, Nat.reduceEqDiff, Nat.reduceBEq, Nat.reduceLeDiff, Int.reduceToNat, Int.reduceLT, Int.reduceLE, Int.reduceEq, reduceCtorEq, ↓reduceIte, X58_1, k58_1, b2]
noncomputable def X58_2 (a0 : pattern) (o : Bool) : Ex × Fr × St :=
  (.normal, frOf 47 (upd anyF 2 (.bool o)), [])
theorem e58_2 (rc : pattern → Option Bool) (hrc : ∀ (a0 : pattern) (r : Bool), rc a0 = some r → evFL T 58 [.tp .imm 3 [encpattern .imm a0] 0 0] [] = some (.bool r, [])) (a0 : pattern) (o : Bool) (h : m58_2 rc a0 = some o) : evCL T 0 k58_2 (frOf 47 (upd anyF 0 (.tp .imm 3 [encpattern .imm a0] 0 0))) [] = some (X58_2 a0 o) := by
  unfold m58_2 at h
  obtain ⟨x8, q9, h⟩ := bnd_some h
  obtain ⟨g10, g11, g12⟩ := idx_row (encPpattern .imm) q9
  try simp -implicitDefEqProofs only [go_sem, Nat.reduceLT, Nat.reduceAdd, Nat.reduceSub, Nat.reduceMul, Nat.reduceEqDiff, Nat.reduceBEq, Nat.reduceLeDiff, Int.reduceToNat, Int.reduceLT, Int.reduceLE, Int.reduceEq, reduceCtorEq, ↓reduceIte] at g11
  try simp -implicitDefEqProofs only [go_sem, Nat.reduceLT, Nat.reduceAdd, Nat.reduceSub, Nat.reduceMul, Nat.reduceEqDiff, Nat.reduceBEq, Nat.reduceLeDiff, Int.reduceToNat, Int.reduceLT, Int.reduceLE, Int.reduceEq, reduceCtorEq, ↓reduceIte] at g12
  obtain ⟨r15, q13, h⟩ := bnd_some h
  have w14 := hrc x8 r15 q13
  try simp -implicitDefEqProofs only [go_sem, Nat.reduceLT, Nat.reduceAdd, Nat.reduceSub, Nat.reduceMul, Nat.reduceEqDiff, Nat.reduceBEq, Nat.reduceLeDiff, Int.reduceToNat, Int.reduceLT, Int.reduceLE, Int.reduceEq, reduceCtorEq, ↓reduceIte] at w14
  try simp -implicitDefEqProofs only [go_sem, Nat.reduceLT, Nat.reduceAdd, Nat.reduceSub, Nat.reduceMul, Nat.reduceEqDiff, Nat.reduceBEq, Nat.reduceLeDiff, Int.reduceToNat, Int.reduceLT, Int.reduceLE, Int.reduceEq, reduceCtorEq, ↓reduceIte, X58_2, k58_2, g10, g11, g12, w14]
  cases b16 : (r15 : Bool)
  · replace h := br_f b16 h
    cases h
    simp -implicitDefEqProofs only [go_sem, Nat.reduceLT, Nat.reduceAdd, Nat.reduceSub, Nat.reduceMul, Nat.reduceEqDiff, Nat.reduceBEq, Nat.reduceLeDiff, Int.reduceToNat, Int.reduceLT, Int.reduceLE, Int.reduceEq, reduceCtorEq, ↓reduceIte, X58_2, k58_2, g10, g11, g12, w14, b16]
  · replace h := br_t b16 h
    obtain ⟨x17, q18, h⟩ := bnd_some h
    obtain ⟨g19, g20, g21⟩ := idx_row (encPpattern .imm) q18
    try simp -implicitDefEqProofs only [go_sem, Nat.reduceLT, Nat.reduceAdd, Nat.reduceSub, Nat.reduceMul, Nat.reduceEqDiff, Nat.reduceBEq, Nat.reduceLeDiff, Int.reduceToNat, Int.reduceLT, Int.reduceLE, Int.reduceEq, reduceCtorEq, ↓reduceIte] at g20
    try simp -implicitDefEqProofs only [go_sem, Nat.reduceLT, Nat.reduceAdd, Nat.reduceSub, Nat.reduceMul, Nat.reduceEqDiff, Nat.reduceBEq, Nat.reduceLeDiff, Int.reduceToNat, Int.reduceLT, Int.reduceLE, Int.reduceEq, reduceCtorEq, ↓reduceIte] at g21
    obtain ⟨r24, q22, h⟩ := bnd_some h
    have w23 := hrc x17 r24 q22
    try simp -implicitDefEqProofs only [go_sem, Nat.reduceLT, Nat.reduceAdd, Nat.reduceSub, Nat.reduceMul, Nat.reduceEqDiff, Nat.reduceBEq, Nat.reduceLeDiff, Int.reduceToNat, Int.reduceLT, Int.reduceLE, Int.reduceEq, reduceCtorEq, ↓reduceIte] at w23
    cases h
    simp -implicitDefEqProofs only [go_sem, Nat.reduceLT, Nat.reduceAdd, Nat.reduceSub, Nat.reduceMul, Nat.reduceEqDiff, Nat.reduceBEq, Nat.reduceLeDiff, Int.reduceToNat, Int.reduceLT, Int.reduceLE, Int.reduceEq, reduceCtorEq, ↓reduceIte, X58_2, k58_2, g10, g11, g12, w14, b16, g19, g20, g21, w23]
noncomputable def X58_3 (a0 : pattern) (o : Bool) : Ex × Fr × St :=
  (.normal, frOf 47 (upd anyF 2 (.bool o)), [])
theorem e58_3 (rc : pattern → Option Bool) (hrc : ∀ (a0 : pattern) (r : Bool), rc a0 = some r → evFL T 58 [.tp .imm 3 [encpattern .imm a0] 0 0] [] = some (.bool r, [])) (a0 : pattern) (o : Bool) (h : m58_3 rc a0 = some o) : evCL T 0 k58_3 (frOf 47 (upd anyF 0 (.tp .imm 3 [encpattern .imm a0] 0 0))) [] = some (X58_3 a0 o) := by
  unfold m58_3 at h
  obtain ⟨x29, q30, h⟩ := bnd_some h
  obtain ⟨g31, g32, g33⟩ := idx_row (encPpattern .imm) q30
  try simp -implicitDefEqProofs only [go_sem, Nat.reduceLT, Nat.reduceAdd, Nat.reduceSub, Nat.reduceMul, Nat.reduceEqDiff, Nat.reduceBEq, Nat.reduceLeDiff, Int.reduceToNat, Int.reduceLT, Int.reduceLE, Int.reduceEq, reduceCtorEq, ↓reduceIte] at g32
  try simp -implicitDefEqProofs only [go_sem, Nat.reduceLT, Nat.reduceAdd, Nat.reduceSub, Nat.reduceMul, Nat.reduceEqDiff, Nat.reduceBEq, Nat.reduceLeDiff, Int.reduceToNat, Int.reduceLT, Int.reduceLE, Int.reduceEq, reduceCtorEq, ↓reduceIte] at g33
  obtain ⟨r36, q34, h⟩ := bnd_some h
  have w35 := hrc x29 r36 q34
  try simp -implicitDefEqProofs only [go_sem, Nat.reduceLT, Nat.reduceAdd, Nat.reduceSub, Nat.reduceMul, Nat.reduceEqDiff, Nat.reduceBEq, Nat.reduceLeDiff, Int.reduceToNat, Int.reduceLT, Int.reduceLE, Int.reduceEq, reduceCtorEq, ↓reduceIte] at w35
  try simp -implicitDefEqProofs only [go_sem, Nat.reduceLT, Nat.reduceAdd, Nat.reduceSub, Nat.reduceMul, Nat.reduceEqDiff, Nat.reduceBEq, Nat.reduceLeDiff, Int.reduceToNat, Int.reduceLT, Int.reduceLE, Int.reduceEq, reduceCtorEq, ↓reduceIte, X58_3, k58_3, g31, g32, g33, w35]
  cases b37 : (r36 : Bool)
  · replace h := br_f b37 h
    obtain ⟨x38, q39, h⟩ := bnd_some h
    obtain ⟨g40, g41, g42⟩ := idx_row (encPpattern .imm) q39
    try simp -implicitDefEqProofs only [go_sem, Nat.reduceLT, Nat.reduceAdd, Nat.reduceSub, Nat.reduceMul, Nat.reduceEqDiff, Nat.reduceBEq, Nat.reduceLeDiff, Int.reduceToNat, Int.reduceLT, Int.reduceLE, Int.reduceEq, reduceCtorEq, ↓reduceIte] at g41
    try simp -implicitDefEqProofs only [go_sem, Nat.reduceLT, Nat.reduceAdd, Nat.reduceSub, Nat.reduceMul, Nat.reduceEqDiff, Nat.reduceBEq, Nat.reduceLeDiff, Int.reduceToNat, Int.reduceLT, Int.reduceLE, Int.reduceEq, reduceCtorEq, ↓reduceIte] at g42
    obtain ⟨r45, q43, h⟩ := bnd_some h
    have w44 := hrc x38 r45 q43
    try simp -implicitDefEqProofs only [go_sem, Nat.reduceLT, Nat.reduceAdd, Nat.reduceSub, Nat.reduceMul, Nat.reduceEqDiff, Nat.reduceBEq, Nat.reduceLeDiff, Int.reduceToNat, Int.reduceLT, Int.reduceLE, Int.reduceEq, reduceCtorEq, ↓reduceIte] at w44
    cases h
    simp -implicitDefEqProofs only [go_sem, Nat.reduceLT, Nat.reduceAdd, Nat.reduceSub, Nat.reduceMul, Nat.reduceEqDiff, Nat.reduceBEq, Nat.reduceLeDiff, Int.reduceToNat, Int.reduceLT, Int.reduceLE, Int.reduceEq, reduceCtorEq, ↓reduceIte, X58_3, k58_3, g31, g32, g33, w35, b37, g40, g41, g42, w44]
  · replace h := br_t b37 h
    cases h
    simp -implicitDefEqProofs only [go_sem, Nat.reduceLT, Nat.reduceAdd, Nat.reduceSub, Nat.reduceMul, Nat.reduceEqDiff, Nat.reduceBEq, Nat.reduceLeDiff, Int.reduceToNat, Int.reduceLT, Int.reduceLE, Int.reduceEq, reduceCtorEq, ↓reduceIte, X58_3, k58_3, g31, g32, g33, w35, b37]
theorem e58r (rc : pattern → Option Bool) (hrc : ∀ (a0 : pattern) (r : Bool), rc a0 = some r → evFL T 58 [.tp .imm 3 [encpattern .imm a0] 0 0] [] = some (.bool r, [])) (a0 : pattern) (r : Bool) (h : m58r rc a0 = some r) : evFL T 58 [.tp .imm 3 [encpattern .imm a0] 0 0] [] = some (.bool r, []) := by
  unfold m58r at h
  rw [evFL_at fn58 (Nat.le_of_ble_eq_true rfl) rfl (.inr rfl) ⟨rfl, rfl⟩]
  obtain ⟨v5, q3, h⟩ := bnd_some h
  have w4 := e58_1 rc hrc a0 (eqI a0.cell.kind 2) v5 q3
  simp only [X58_1] at w4
  try simp -implicitDefEqProofs only [go_sem, Nat.reduceLT, Nat.reduceAdd, Nat.reduceSub, Nat.reduceMul, Nat.reduceEqDiff, Nat.reduceBEq, Nat.reduceLeDiff, Int.reduceToNat, Int.reduceLT, Int.reduceLE, Int.reduceEq, reduceCtorEq, ↓reduceIte] at w4
  try simp -implicitDefEqProofs only [go_sem, Nat.reduceLT, Nat.reduceAdd, Nat.reduceSub, Nat.reduceMul, Nat.reduceEqDiff, Nat.reduceBEq, Nat.reduceLeDiff, Int.reduceToNat, Int.reduceLT, Int.reduceLE, Int.reduceEq, reduceCtorEq, ↓reduceIte, i58, c58, w4]
  cases b6 : (v5 : Bool)
  · replace h := br_f b6 h
    try simp -implicitDefEqProofs only [go_sem, Nat.reduceLT, Nat.reduceAdd, Nat.reduceSub, Nat.reduceMul, Nat.reduceEqDiff, Nat.reduceBEq, Nat.reduceLeDiff, Int.reduceToNat, Int.reduceLT, Int.reduceLE, Int.reduceEq, reduceCtorEq, ↓reduceIte, i58, c58, w4, b6]
    cases b7 : (eqI a0.cell.kind 5 : Bool)
    · replace h := br_f b7 h
      try simp -implicitDefEqProofs only [go_sem, Nat.reduceLT, Nat.reduceAdd, Nat.reduceSub, Nat.reduceMul, Nat.reduceEqDiff, Nat.reduceBEq, Nat.reduceLeDiff, Int.reduceToNat, Int.reduceLT, Int.reduceLE, Int.reduceEq, reduceCtorEq, ↓reduceIte, i58, c58, w4, b6, b7]
      cases b28 : (eqI a0.cell.kind 6 : Bool)
      · replace h := br_f b28 h
        cases h
        simp -implicitDefEqProofs only [go_sem, Nat.reduceLT, Nat.reduceAdd, Nat.reduceSub, Nat.reduceMul, Nat.reduceEqDiff, Nat.reduceBEq, Nat.reduceLeDiff, Int.reduceToNat, Int.reduceLT, Int.reduceLE, Int.reduceEq, reduceCtorEq, ↓reduceIte, i58, c58, w4, b6, b7, b28]
      · replace h := br_t b28 h
        obtain ⟨v48, q46, h⟩ := bnd_some h
        have w47 := e58_3 rc hrc a0 v48 q46
        simp only [X58_3] at w47
        try simp -implicitDefEqProofs only [go_sem, Nat.reduceLT, Nat.reduceAdd, Nat.reduceSub, Nat.reduceMul, Nat.reduceEqDiff, Nat.reduceBEq, Nat.reduceLeDiff, Int.reduceToNat, Int.reduceLT, Int.reduceLE, Int.reduceEq, reduceCtorEq, ↓reduceIte] at w47
        cases h
        simp -implicitDefEqProofs only [go_sem, Nat.reduceLT, Nat.reduceAdd, Nat.reduceSub, Nat.reduceMul, Nat.reduceEqDiff, Nat.reduceBEq, Nat.reduceLeDiff, Int.reduceToNat, Int.reduceLT, Int.reduceLE, Int.reduceEq, reduceCtorEq, ↓reduceIte, i58, c58, w4, b6, b7, b28, w47]
    · replace h := br_t b7 h
      obtain ⟨v27, q25, h⟩ := bnd_some h
      have w26 := e58_2 rc hrc a0 v27 q25
      simp only [X58_2] at w26
      try simp -implicitDefEqProofs only [go_sem, Nat.reduceLT, Nat.reduceAdd, Nat.reduceSub, Nat.reduceMul, Nat.reduceEqDiff, Nat.reduceBEq, Nat.reduceLeDiff, Int.reduceToNat, Int.reduceLT, Int.reduceLE, Int.reduceEq, reduceCtorEq, ↓reduceIte] at w26
      cases h
      simp -implicitDefEqProofs only [go_sem, Nat.reduceLT, Nat.reduceAdd, Nat.reduceSub, Nat.reduceMul, Nat.reduceEqDiff, Nat.reduceBEq, Nat.reduceLeDiff, Int.reduceToNat, Int.reduceLT, Int.reduceLE, Int.reduceEq, reduceCtorEq, ↓reduceIte, i58, c58, w4, b6, b7, w26]
  · replace h := br_t b6 h
    cases h
    simp -implicitDefEqProofs only [go_sem, Nat.reduceLT, Nat.reduceAdd, Nat.reduceSub, Nat.reduceMul, Nat.reduceEqDiff, Nat.reduceBEq, Nat.reduceLeDiff, Int.reduceToNat, Int.reduceLT, Int.reduceLE, Int.reduceEq, reduceCtorEq, ↓reduceIte, i58, c58, w4, b6]
theorem e58k : ∀ (k : Nat) (a0 : pattern) (r : Bool) (h : m58k k a0 = some r), evFL T 58 [.tp .imm 3 [encpattern .imm a0] 0 0] [] = some (.bool r, []) := by
  intro k
  induction k with
  | zero => intro a0 r h; cases h
  | succ k ih => intro a0 r h; exact e58r (m58k k) (fun a0 r h => ih a0 r h) a0 r h
theorem e58 (a0 : pattern) (r : Bool) (h : m58 a0 = some r) : evFL T 58 [.tp .imm 3 [encpattern .imm a0] 0 0] [] = some (.bool r, []) := by
  obtain ⟨N, hN⟩ := limO_iff.1 h
  exact e58k N a0 r (hN N (Nat.le_refl N))
-- f43 (*impl.pattern).derive
theorem call43 (args : List AV) (S : St) : evCall T (evFL T) 43 args S = treeC false (evFL T 43) S args (lendAll S [[0], [0]] args) := evCallT fn43 rfl rfl rfl args S
attribute [go_sem] call43
noncomputable def X43_1 (a0 : pattern) (a1 : Int) (p5 : Bool) (o : (Unit ⊕ pattern)) : Ex × Fr × St :=
  match o with
  | .inl o => (.normal, frOf 95 (anyF), [])
  | .inr o => (.ret, frOf 95 (upd anyF 4 (.tp .imm 3 [encpattern .imm o] 0 0)), [])
theorem e43_1 (rc : pattern → Int → Option pattern) (hrc : ∀ (a0 : pattern) (a1 : Int) (r : pattern), rc a0 a1 = some r → evFL T 43 [.tp .imm 3 [encpattern .imm a0] 0 0, .int .i64 a1] [] = some (.tp .imm 3 [encpattern .imm r] 0 0, [])) (a0 : pattern) (a1 : Int) (p5 : Bool) (o : (Unit ⊕ pattern)) (h : m43_1 rc a0 a1 p5 = some o) : evCL T 0 k43_1 (frOf 95 (upd (upd (upd (upd anyF 0 (.tp .imm 3 [encpattern .imm a0] 0 0)) 1 (.int .i64 a1)) 10 (.int .i64 a0.cell.kind)) 14 (.bool p5))) [] = some (X43_1 a0 a1 p5 o) := by
  unfold m43_1 at h
  try simp -implicitDefEqProofs only [go_sem, Nat.reduceLT, Nat.reduceAdd, Nat.reduceSub, Nat.reduceMul, Nat.reduceEqDiff, Nat.reduceBEq, Nat.reduceLeDiff, Int.reduceToNat, Int.reduceLT, Int.reduceLE, Int.reduceEq, reduceCtorEq, ↓reduceIte, X43_1, k43_1]
  cases b6 : (p5 : Bool)
  · replace h := br_f b6 h
    try simp -implicitDefEqProofs only [go_sem, Nat.reduceLT, Nat.reduceAdd, Nat.reduceSub, Nat.reduceMul, Nat.reduceEqDiff, Nat.reduceBEq, Nat.reduceLeDiff, Int.reduceToNat, Int.reduceLT, Int.reduceLE, Int.reduceEq, reduceCtorEq, ↓reduceIte, X43_1, k43_1, b6]
    cases b11 : (eqI a0.cell.kind 6 : Bool)
    · replace h := br_f b11 h
      try simp -implicitDefEqProofs only [go_sem, Nat.reduceLT, Nat.reduceAdd, Nat.reduceSub, Nat.reduceMul, Nat.reduceEqDiff, Nat.reduceBEq, Nat.reduceLeDiff, Int.reduceToNat, Int.reduceLT, Int.reduceLE, Int.reduceEq, reduceCtorEq, ↓reduceIte, X43_1, k43_1, b6, b11]
      cases b31 : (eqI a0.cell.kind 7 : Bool)
      · replace h := br_f b31 h
        try simp -implicitDefEqProofs only [go_sem, Nat.reduceLT, Nat.reduceAdd, Nat.reduceSub, Nat.reduceMul, Nat.reduceEqDiff, Nat.reduceBEq, Nat.reduceLeDiff, Int.reduceToNat, Int.reduceLT, Int.reduceLE, Int.reduceEq, reduceCtorEq, ↓reduceIte, X43_1, k43_1, b6, b11, b31]
        cases b43 : (eqI a0.cell.kind 5 : Bool)
        · replace h := br_f b43 h
          cases h
          simp -implicitDefEqProofs only [go_sem, Nat.reduceLT, Nat.reduceAdd, Nat.reduceSub, Nat.reduceMul, Nat.reduceEqDiff, Nat.reduceBEq, Nat.reduceLeDiff, Int.reduceToNat, Int.reduceLT, Int.reduceLE, Int.reduceEq, reduceCtorEq, ↓reduceIte, X43_1, k43_1, b6, b11, b31, b43]
        · replace h := br_t b43 h
          obtain ⟨x44, q45, h⟩ := bnd_some h
          obtain ⟨g46, g47, g48⟩ := idx_row (encPpattern .imm) q45
          try simp -implicitDefEqProofs only [go_sem, Nat.reduceLT, Nat.reduceAdd, Nat.reduceSub, Nat.reduceMul, Nat.reduceEqDiff, Nat.reduceBEq, Nat.reduceLeDiff, Int.reduceToNat, Int.reduceLT, Int.reduceLE, Int.reduceEq, reduceCtorEq, ↓reduceIte] at g47
          try simp -implicitDefEqProofs only [go_sem, Nat.reduceLT, Nat.reduceAdd, Nat.reduceSub, Nat.reduceMul, Nat.reduceEqDiff, Nat.reduceBEq, Nat.reduceLeDiff, Int.reduceToNat, Int.reduceLT, Int.reduceLE, Int.reduceEq, reduceCtorEq, ↓reduceIte] at g48
          obtain ⟨r51, q49, h⟩ := bnd_some h
          have w50 := hrc x44 a1 r51 q49
          try simp -implicitDefEqProofs only [go_sem, Nat.reduceLT, Nat.reduceAdd, Nat.reduceSub, Nat.reduceMul, Nat.reduceEqDiff, Nat.reduceBEq, Nat.reduceLeDiff, Int.reduceToNat, Int.reduceLT, Int.reduceLE, Int.reduceEq, reduceCtorEq, ↓reduceIte] at w50
          obtain ⟨x52, q53, h⟩ := bnd_some h
          obtain ⟨g54, g55, g56⟩ := idx_row (encPpattern .imm) q53
          try simp -implicitDefEqProofs only [go_sem, Nat.reduceLT, Nat.reduceAdd, Nat.reduceSub, Nat.reduceMul, Nat.reduceEqDiff, Nat.reduceBEq, Nat.reduceLeDiff, Int.reduceToNat, Int.reduceLT, Int.reduceLE, Int.reduceEq, reduceCtorEq, ↓reduceIte] at g55
          try simp -implicitDefEqProofs only [go_sem, Nat.reduceLT, Nat.reduceAdd, Nat.reduceSub, Nat.reduceMul, Nat.reduceEqDiff, Nat.reduceBEq, Nat.reduceLeDiff, Int.reduceToNat, Int.reduceLT, Int.reduceLE, Int.reduceEq, reduceCtorEq, ↓reduceIte] at g56
          obtain ⟨r59, q57, h⟩ := bnd_some h
          have w58 := e68 5 [r51, x52] r59 q57
          try simp -implicitDefEqProofs only [go_sem, Nat.reduceLT, Nat.reduceAdd, Nat.reduceSub, Nat.reduceMul, Nat.reduceEqDiff, Nat.reduceBEq, Nat.reduceLeDiff, Int.reduceToNat, Int.reduceLT, Int.reduceLE, Int.reduceEq, reduceCtorEq, ↓reduceIte] at w58
          obtain ⟨r62, q60, h⟩ := bnd_some h
          have w61 := e58 x44 r62 q60
          try simp -implicitDefEqProofs only [go_sem, Nat.reduceLT, Nat.reduceAdd, Nat.reduceSub, Nat.reduceMul, Nat.reduceEqDiff, Nat.reduceBEq, Nat.reduceLeDiff, Int.reduceToNat, Int.reduceLT, Int.reduceLE, Int.reduceEq, reduceCtorEq, ↓reduceIte] at w61
          try simp -implicitDefEqProofs only [go_sem, Nat.reduceLT, Nat.reduceAdd, Nat.reduceSub, Nat.reduceMul, Nat.reduceEqDiff, Nat.reduceBEq, Nat.reduceLeDiff, Int.reduceToNat, Int.reduceLT, Int.reduceLE, Int.reduceEq, reduceCtorEq, ↓reduceIte, X43_1, k43_1, b6, b11, b31, b43, g46, g47, g48, w50, g54, g55, g56, w58, w61]
          cases b63 : (r62 : Bool)
          · replace h := br_f b63 h
            cases h
            simp -implicitDefEqProofs only [go_sem, Nat.reduceLT, Nat.reduceAdd, Nat.reduceSub, Nat.reduceMul, Nat.reduceEqDiff, Nat.reduceBEq, Nat.reduceLeDiff, Int.reduceToNat, Int.reduceLT, Int.reduceLE, Int.reduceEq, reduceCtorEq, ↓reduceIte, X43_1, k43_1, b6, b11, b31, b43, g46, g47, g48, w50, g54, g55, g56, w58, w61, b63]
          · replace h := br_t b63 h
            obtain ⟨r66, q64, h⟩ := bnd_some h
            have w65 := hrc x52 a1 r66 q64
            try simp -implicitDefEqProofs only [go_sem, Nat.reduceLT, Nat.reduceAdd, Nat.reduceSub, Nat.reduceMul, Nat.reduceEqDiff, Nat.reduceBEq, Nat.reduceLeDiff, Int.reduceToNat, Int.reduceLT, Int.reduceLE, Int.reduceEq, reduceCtorEq, ↓reduceIte] at w65
            obtain ⟨r69, q67, h⟩ := bnd_some h
            have w68 := e68 6 [r59, r66] r69 q67
            try simp -implicitDefEqProofs only [go_sem, Nat.reduceLT, Nat.reduceAdd, Nat.reduceSub, Nat.reduceMul, Nat.reduceEqDiff, Nat.reduceBEq, Nat.reduceLeDiff, Int.reduceToNat, Int.reduceLT, Int.reduceLE, Int.reduceEq, reduceCtorEq, ↓reduceIte] at w68
            cases h
            simp -implicitDefEqProofs only [go_sem, Nat.reduceLT, Nat.reduceAdd, Nat.reduceSub, Nat.reduceMul, Nat.reduceEqDiff, Nat.reduceBEq, Nat.reduceLeDiff, Int.reduceToNat, Int.reduceLT, Int.reduceLE, Int.reduceEq, reduceCtorEq, ↓reduceIte, X43_1, k43_1, b6, b11, b31, b43, g46, g47, g48, w50, g54, g55, g56, w58, w61, b63, w65, w68]
      · replace h := br_t b31 h
        obtain ⟨x32, q33, h⟩ := bnd_some h
        obtain ⟨g34, g35, g36⟩ := idx_row (encPpattern .imm) q33
        try simp -implicitDefEqProofs only [go_sem, Nat.reduceLT, Nat.reduceAdd, Nat.reduceSub, Nat.reduceMul, Nat.reduceEqDiff, Nat.reduceBEq, Nat.reduceLeDiff, Int.reduceToNat, Int.reduceLT, Int.reduceLE, Int.reduceEq, reduceCtorEq, ↓reduceIte] at g35
        try simp -implicitDefEqProofs only [go_sem, Nat.reduceLT, Nat.reduceAdd, Nat.reduceSub, Nat.reduceMul, Nat.reduceEqDiff, Nat.reduceBEq, Nat.reduceLeDiff, Int.reduceToNat, Int.reduceLT, Int.reduceLE, Int.reduceEq, reduceCtorEq, ↓reduceIte] at g36
        obtain ⟨r39, q37, h⟩ := bnd_some h
        have w38 := hrc x32 a1 r39 q37
        try simp -implicitDefEqProofs only [go_sem, Nat.reduceLT, Nat.reduceAdd, Nat.reduceSub, Nat.reduceMul, Nat.reduceEqDiff, Nat.reduceBEq, Nat.reduceLeDiff, Int.reduceToNat, Int.reduceLT, Int.reduceLE, Int.reduceEq, reduceCtorEq, ↓reduceIte] at w38
        obtain ⟨r42, q40, h⟩ := bnd_some h
        have w41 := e68 5 [r39, a0] r42 q40
        try simp -implicitDefEqProofs only [go_sem, Nat.reduceLT, Nat.reduceAdd, Nat.reduceSub, Nat.reduceMul, Nat.reduceEqDiff, Nat.reduceBEq, Nat.reduceLeDiff, Int.reduceToNat, Int.reduceLT, Int.reduceLE, Int.reduceEq, reduceCtorEq, ↓reduceIte] at w41
        cases h
        simp -implicitDefEqProofs only [go_sem, Nat.reduceLT, Nat.reduceAdd, Nat.reduceSub, Nat.reduceMul, Nat.reduceEqDiff, Nat.reduceBEq, Nat.reduceLeDiff, Int.reduceToNat, Int.reduceLT, Int.reduceLE, Int.reduceEq, reduceCtorEq, ↓reduceIte, X43_1, k43_1, b6, b11, b31, g34, g35, g36, w38, w41]
    · replace h := br_t b11 h
      obtain ⟨x12, q13, h⟩ := bnd_some h
      obtain ⟨g14, g15, g16⟩ := idx_row (encPpattern .imm) q13
      try simp -implicitDefEqProofs only [go_sem, Nat.reduceLT, Nat.reduceAdd, Nat.reduceSub, Nat.reduceMul, Nat.reduceEqDiff, Nat.reduceBEq, Nat.reduceLeDiff, Int.reduceToNat, Int.reduceLT, Int.reduceLE, Int.reduceEq, reduceCtorEq, ↓reduceIte] at g15
      try simp -implicitDefEqProofs only [go_sem, Nat.reduceLT, Nat.reduceAdd, Nat.reduceSub, Nat.reduceMul, Nat.reduceEqDiff, Nat.reduceBEq, Nat.reduceLeDiff, Int.reduceToNat, Int.reduceLT, Int.reduceLE, Int.reduceEq, reduceCtorEq, ↓reduceIte] at g16
      obtain ⟨r19, q17, h⟩ := bnd_some h
      have w18 := hrc x12 a1 r19 q17
      try simp -implicitDefEqProofs only [go_sem, Nat.reduceLT, Nat.reduceAdd, Nat.reduceSub, Nat.reduceMul, Nat.reduceEqDiff, Nat.reduceBEq, Nat.reduceLeDiff, Int.reduceToNat, Int.reduceLT, Int.reduceLE, Int.reduceEq, reduceCtorEq, ↓reduceIte] at w18
      obtain ⟨x20, q21, h⟩ := bnd_some h
      obtain ⟨g22, g23, g24⟩ := idx_row (encPpattern .imm) q21
      try simp -implicitDefEqProofs only [go_sem, Nat.reduceLT, Nat.reduceAdd, Nat.reduceSub, Nat.reduceMul, Nat.reduceEqDiff, Nat.reduceBEq, Nat.reduceLeDiff, Int.reduceToNat, Int.reduceLT, Int.reduceLE, Int.reduceEq, reduceCtorEq, ↓reduceIte] at g23
      try simp -implicitDefEqProofs only [go_sem, Nat.reduceLT, Nat.reduceAdd, Nat.reduceSub, Nat.reduceMul, Nat.reduceEqDiff, Nat.reduceBEq, Nat.reduceLeDiff, Int.reduceToNat, Int.reduceLT, Int.reduceLE, Int.reduceEq, reduceCtorEq, ↓reduceIte] at g24
      obtain ⟨r27, q25, h⟩ := bnd_some h
      have w26 := hrc x20 a1 r27 q25
      try simp -implicitDefEqProofs only [go_sem, Nat.reduceLT, Nat.reduceAdd, Nat.reduceSub, Nat.reduceMul, Nat.reduceEqDiff, Nat.reduceBEq, Nat.reduceLeDiff, Int.reduceToNat, Int.reduceLT, Int.reduceLE, Int.reduceEq, reduceCtorEq, ↓reduceIte] at w26
      obtain ⟨r30, q28, h⟩ := bnd_some h
      have w29 := e68 6 [r19, r27] r30 q28
      try simp -implicitDefEqProofs only [go_sem, Nat.reduceLT, Nat.reduceAdd, Nat.reduceSub, Nat.reduceMul, Nat.reduceEqDiff, Nat.reduceBEq, Nat.reduceLeDiff, Int.reduceToNat, Int.reduceLT, Int.reduceLE, Int.reduceEq, reduceCtorEq, ↓reduceIte] at w29
      cases h
      simp -implicitDefEqProofs only [go_sem, Nat.reduceLT, Nat.reduceAdd, Nat.reduceSub, Nat.reduceMul, Nat.reduceEqDiff, Nat.reduceBEq, Nat.reduceLeDiff, Int.reduceToNat, Int.reduceLT, Int.reduceLE, Int.reduceEq, reduceCtorEq, ↓reduceIte, X43_1, k43_1, b6, b11, g14, g15, g16, w18, g22, g23, g24, w26, w29]
  · replace h := br_t b6 h
    try simp -implicitDefEqProofs only [go_sem, Nat.reduceLT, Nat.reduceAdd, Nat.reduceSub, Nat.reduceMul, Nat.reduceEqDiff, Nat.reduceBEq, Nat.reduceLeDiff, Int.reduceToNat, Int.reduceLT, Int.reduceLE, Int.reduceEq, reduceCtorEq, ↓reduceIte, X43_1, k43_1, b6]
    cases b7 : (eqI a0.cell.n a1 : Bool)
    · replace h := br_f b7 h
      cases h
      simp -implicitDefEqProofs only [go_sem, Nat.reduceLT, Nat.reduceAdd, Nat.reduceSub, Nat.reduceMul, Nat.reduceEqDiff, Nat.reduceBEq, Nat.reduceLeDiff, Int.reduceToNat, Int.reduceLT, Int.reduceLE, Int.reduceEq, reduceCtorEq, ↓reduceIte, X43_1, k43_1, b6, b7]
    · replace h := br_t b7 h
      obtain ⟨r10, q8, h⟩ := bnd_some h
      have w9 := e68 2 [] r10 q8
      try simp -implicitDefEqProofs only [go_sem, Nat.reduceLT, Nat.reduceAdd, Nat.reduceSub, Nat.reduceMul, Nat.reduceEqDiff, Nat.reduceBEq, Nat.reduceLeDiff, Int.reduceToNat, Int.reduceLT, Int.reduceLE, Int.reduceEq, reduceCtorEq, ↓reduceIte] at w9
      cases h
      simp -implicitDefEqProofs only [go_sem, Nat.reduceLT, Nat.reduceAdd, Nat.reduceSub, Nat.reduceMul, Nat.reduceEqDiff, Nat.reduceBEq, Nat.reduceLeDiff, Int.reduceToNat, Int.reduceLT, Int.reduceLE, Int.reduceEq, reduceCtorEq, ↓reduceIte, X43_1, k43_1, b6, b7, w9]
theorem e43r (rc : pattern → Int → Option pattern) (hrc : ∀ (a0 : pattern) (a1 : Int) (r : pattern), rc a0 a1 = some r → evFL T 43 [.tp .imm 3 [encpattern .imm a0] 0 0, .int .i64 a1] [] = some (.tp .imm 3 [encpattern .imm r] 0 0, [])) (a0 : pattern) (a1 : Int) (r : pattern) (h : m43r rc a0 a1 = some r) : evFL T 43 [.tp .imm 3 [encpattern .imm a0] 0 0, .int .i64 a1] [] = some (.tp .imm 3 [encpattern .imm r] 0 0, []) := by
  unfold m43r at h
  rw [evFL_at fn43 (Nat.le_of_ble_eq_true rfl) rfl (.inr rfl) ⟨rfl, rfl⟩]
  try simp -implicitDefEqProofs only [go_sem, Nat.reduceLT, Nat.reduceAdd, Nat.reduceSub, Nat.reduceMul, Nat.reduceEqDiff, Nat.reduceBEq, Nat.reduceLeDiff, Int.reduceToNat, Int.reduceLT, Int.reduceLE, Int.reduceEq, reduceCtorEq, ↓reduceIte, i43, c43]
  cases b1 : (eqI a0.cell.kind 4 : Bool)
  · replace h := br_f b1 h
    try simp -implicitDefEqProofs only [go_sem, Nat.reduceLT, Nat.reduceAdd, Nat.reduceSub, Nat.reduceMul, Nat.reduceEqDiff, Nat.reduceBEq, Nat.reduceLeDiff, Int.reduceToNat, Int.reduceLT, Int.reduceLE, Int.reduceEq, reduceCtorEq, ↓reduceIte, i43, c43, b1]
    obtain ⟨o, q70, h⟩ := bnd_some h
    rcases o with ⟨⟩ | v75
    · replace h := selS_l h
      have w71 := e43_1 rc hrc a0 a1 (eqI a0.cell.kind 3) (.inl ()) q70
      simp only [X43_1] at w71
      try simp -implicitDefEqProofs only [go_sem, Nat.reduceLT, Nat.reduceAdd, Nat.reduceSub, Nat.reduceMul, Nat.reduceEqDiff, Nat.reduceBEq, Nat.reduceLeDiff, Int.reduceToNat, Int.reduceLT, Int.reduceLE, Int.reduceEq, reduceCtorEq, ↓reduceIte] at w71
      obtain ⟨r74, q72, h⟩ := bnd_some h
      have w73 := e68 1 [] r74 q72
      try simp -implicitDefEqProofs only [go_sem, Nat.reduceLT, Nat.reduceAdd, Nat.reduceSub, Nat.reduceMul, Nat.reduceEqDiff, Nat.reduceBEq, Nat.reduceLeDiff, Int.reduceToNat, Int.reduceLT, Int.reduceLE, Int.reduceEq, reduceCtorEq, ↓reduceIte] at w73
      cases h
      simp -implicitDefEqProofs only [go_sem, Nat.reduceLT, Nat.reduceAdd, Nat.reduceSub, Nat.reduceMul, Nat.reduceEqDiff, Nat.reduceBEq, Nat.reduceLeDiff, Int.reduceToNat, Int.reduceLT, Int.reduceLE, Int.reduceEq, reduceCtorEq, ↓reduceIte, i43, c43, b1, w71, w73]
    · replace h := selS_r h
      have w71 := e43_1 rc hrc a0 a1 (eqI a0.cell.kind 3) (.inr v75) q70
      simp only [X43_1] at w71
      try simp -implicitDefEqProofs only [go_sem, Nat.reduceLT, Nat.reduceAdd, Nat.reduceSub, Nat.reduceMul, Nat.reduceEqDiff, Nat.reduceBEq, Nat.reduceLeDiff, Int.reduceToNat, Int.reduceLT, Int.reduceLE, Int.reduceEq, reduceCtorEq, ↓reduceIte] at w71
      cases h
      simp -implicitDefEqProofs only [go_sem, Nat.reduceLT, Nat.reduceAdd, Nat.reduceSub, Nat.reduceMul, Nat.reduceEqDiff, Nat.reduceBEq, Nat.reduceLeDiff, Int.reduceToNat, Int.reduceLT, Int.reduceLE, Int.reduceEq, reduceCtorEq, ↓reduceIte, i43, c43, b1, w71]
  · replace h := br_t b1 h
    obtain ⟨r4, q2, h⟩ := bnd_some h
    have w3 := e68 2 [] r4 q2
    try simp -implicitDefEqProofs only [go_sem, Nat.reduceLT, Nat.reduceAdd, Nat.reduceSub, Nat.reduceMul, Nat.reduceEqDiff, Nat.reduceBEq, Nat.reduceLeDiff, Int.reduceToNat, Int.reduceLT, Int.reduceLE, Int.reduceEq, reduceCtorEq, ↓reduceIte] at w3
    cases h
    simp -implicitDefEqProofs only [go_sem, Nat.reduceLT, Nat.reduceAdd, Nat.reduceSub, Nat.reduceMul, Nat.reduceEqDiff, Nat.reduceBEq, Nat.reduceLeDiff, Int.reduceToNat, Int.reduceLT, Int.reduceLE, Int.reduceEq, reduceCtorEq, ↓reduceIte, i43, c43, b1, w3]
theorem e43k : ∀ (k : Nat) (a0 : pattern) (a1 : Int) (r : pattern) (h : m43k k a0 a1 = some r), evFL T 43 [.tp .imm 3 [encpattern .imm a0] 0 0, .int .i64 a1] [] = some (.tp .imm 3 [encpattern .imm r] 0 0, []) := by
  intro k
  induction k with
  | zero => intro a0 a1 r h; cases h
  | succ k ih => intro a0 a1 r h; exact e43r (m43k k) (fun a0 a1 r h => ih a0 a1 r h) a0 a1 r h
theorem e43 (a0 : pattern) (a1 : Int) (r : pattern) (h : m43 a0 a1 = some r) : evFL T 43 [.tp .imm 3 [encpattern .imm a0] 0 0, .int .i64 a1] [] = some (.tp .imm 3 [encpattern .imm r] 0 0, []) := by
  obtain ⟨N, hN⟩ := limO_iff.1 h
  exact e43k N a0 a1 r (hN N (Nat.le_refl N))
-- f69 (*impl.pattern).tidy$1
theorem call69 (args : List AV) (S : St) : evCall T (evFL T) 69 args S = lendC (evFL T 69) S (lendAll S [[0], [0], [0]] args) := evCall0 fn69 rfl rfl rfl args S
theorem callz69 (args : List AV) (S : St) : evCallFz T (evFL T) 69 args S = lendZ (evFL T 69) S [[0]] (lendAll S [[0], [0], [0]] args) := evCallFz0 fn69 rfl rfl rfl args S
attribute [go_sem] call69 callz69
theorem e69 (a0 : Int) (a1 : Int) (a2 : pattern) (r : Bool) (h : m69 a0 a1 a2 = some r) : evFL T 69 [.int .i64 a0, .int .i64 a1, .tp .imm 1 [[.tp .imm 3 [encpattern .imm a2] 0 0]] 0 0] [] = some (.bool r, []) := by
  unfold m69 at h
  rw [evFL_at fn69 (Nat.le_of_ble_eq_true rfl) rfl (.inr rfl) ⟨rfl, rfl⟩]
  obtain ⟨x1, q2, h⟩ := bnd_some h
  obtain ⟨g3, g4, g5⟩ := idx_row (encPpattern .imm) q2
  try simp -implicitDefEqProofs only [go_sem, Nat.reduceLT, Nat.reduceAdd, Nat.reduceSub, Nat.reduceMul, Nat.reduceEqDiff, Nat.reduceBEq, Nat.reduceLeDiff, Int.reduceToNat, Int.reduceLT, Int.reduceLE, Int.reduceEq, reduceCtorEq, ↓reduceIte] at g4
  try simp -implicitDefEqProofs only [go_sem, Nat.reduceLT, Nat.reduceAdd, Nat.reduceSub, Nat.reduceMul, Nat.reduceEqDiff, Nat.reduceBEq, Nat.reduceLeDiff, Int.reduceToNat, Int.reduceLT, Int.reduceLE, Int.reduceEq, reduceCtorEq, ↓reduceIte] at g5
  cases h
  simp -implicitDefEqProofs only [go_sem, Nat.reduceLT, Nat.reduceAdd, Nat.reduceSub, Nat.reduceMul, Nat.reduceEqDiff, Nat.reduceBEq, Nat.reduceLeDiff, Int.reduceToNat, Int.reduceLT, Int.reduceLE, Int.reduceEq, reduceCtorEq, ↓reduceIte, i69, c69, g3, g4, g5]
-- f45 (*impl.pattern).cells
theorem call45 (args : List AV) (S : St) : evCall T (evFL T) 45 args S = lendC (evFL T 45) S (lendAll S [[0]] args) := evCall0 fn45 rfl rfl rfl args S
theorem callz45 (args : List AV) (S : St) : evCallFz T (evFL T) 45 args S = lendZ (evFL T 45) S [[2]] (lendAll S [[0]] args) := evCallFz0 fn45 rfl rfl rfl args S
attribute [go_sem] call45 callz45
noncomputable def X45_1 (a0 : pattern) (p1 : Int) (o : (List ReCell)) : Ex × Fr × St :=
  (.exit 0, frOf 26 (upd anyF 3 (.sl 0 0 o.length)), [some ⟨.arr, 2, o.map encReCell⟩])
noncomputable def E45_1 (a0 : pattern) (p1 : Int) (s : (Int × List ReCell)) : Fr × St := (frOf 26 (upd (upd (upd (upd anyF 3 (.sl 0 0 s.2.length)) 14 (.ts .imm 1 (a0.parts.map (encPpattern .imm)))) 15 (.int .i64 p1)) 16 (.int .i64 s.1)), [some ⟨.arr, 2, s.2.map encReCell⟩])
theorem b45_1 (rc : pattern → Option (List ReCell)) (hrc : ∀ (a0 : pattern) (r : (List ReCell)), rc a0 = some r → evFL T 45 [.tp .imm 3 [encpattern .imm a0] 0 0] [] = some (.sl 0 0 r.length, [some ⟨.arr, 2, r.map encReCell⟩])) (a0 : pattern) (p1 : Int) (s : (Int × List ReCell)) (o : Ctl (Int × List ReCell) (List ReCell)) (h : m45_1b rc a0 p1 s = some o) : evCL T 0 k45_1b (E45_1 a0 p1 s).1 (E45_1 a0 p1 s).2 = some (ctlX (E45_1 a0 p1) (X45_1 a0 p1) o) := by
  unfold m45_1b at h
  obtain ⟨s13, s14⟩ := s
  replace h := sel2_some h
  try simp -implicitDefEqProofs only [go_sem, Nat.reduceLT, Nat.reduceAdd, Nat.reduceSub, Nat.reduceMul, Nat.reduceEqDiff, Nat.reduceBEq, Nat.reduceLeDiff, Int.reduceToNat, Int.reduceLT, Int.reduceLE, Int.reduceEq, reduceCtorEq, ↓reduceIte, E45_1, X45_1, k45_1b]
  cases b15 : (ltI s13 p1 : Bool)
  · replace h := br_f b15 h
    cases h
    simp -implicitDefEqProofs only [go_sem, Nat.reduceLT, Nat.reduceAdd, Nat.reduceSub, Nat.reduceMul, Nat.reduceEqDiff, Nat.reduceBEq, Nat.reduceLeDiff, Int.reduceToNat, Int.reduceLT, Int.reduceLE, Int.reduceEq, reduceCtorEq, ↓reduceIte, E45_1, X45_1, k45_1b, b15]
  · replace h := br_t b15 h
    obtain ⟨x16, q17, h⟩ := bnd_some h
    obtain ⟨g18, g19, g20⟩ := idx_row (encPpattern .imm) q17
    try simp -implicitDefEqProofs only [go_sem, Nat.reduceLT, Nat.reduceAdd, Nat.reduceSub, Nat.reduceMul, Nat.reduceEqDiff, Nat.reduceBEq, Nat.reduceLeDiff, Int.reduceToNat, Int.reduceLT, Int.reduceLE, Int.reduceEq, reduceCtorEq, ↓reduceIte] at g19
    try simp -implicitDefEqProofs only [go_sem, Nat.reduceLT, Nat.reduceAdd, Nat.reduceSub, Nat.reduceMul, Nat.reduceEqDiff, Nat.reduceBEq, Nat.reduceLeDiff, Int.reduceToNat, Int.reduceLT, Int.reduceLE, Int.reduceEq, reduceCtorEq, ↓reduceIte] at g20
    obtain ⟨r23, q21, h⟩ := bnd_some h
    have w22 := hrc x16 r23 q21
    try simp -implicitDefEqProofs only [go_sem, Nat.reduceLT, Nat.reduceAdd, Nat.reduceSub, Nat.reduceMul, Nat.reduceEqDiff, Nat.reduceBEq, Nat.reduceLeDiff, Int.reduceToNat, Int.reduceLT, Int.reduceLE, Int.reduceEq, reduceCtorEq, ↓reduceIte] at w22
    obtain ⟨g24, h⟩ := ck_some h
    try simp -implicitDefEqProofs only [go_sem, Nat.reduceLT, Nat.reduceAdd, Nat.reduceSub, Nat.reduceMul, Nat.reduceEqDiff, Nat.reduceBEq, Nat.reduceLeDiff, Int.reduceToNat, Int.reduceLT, Int.reduceLE, Int.reduceEq, reduceCtorEq, ↓reduceIte] at g24
    cases h
    simp -implicitDefEqProofs only [go_sem, Nat.reduceLT, Nat.reduceAdd, Nat.reduceSub, Nat.reduceMul, Nat.reduceEqDiff, Nat.reduceBEq, Nat.reduceLeDiff, Int.reduceToNat, Int.reduceLT, Int.reduceLE, Int.reduceEq, reduceCtorEq, ↓reduceIte, E45_1, X45_1, k45_1b, b15, g18, g19, g20, w22, g24]
theorem e45_1 (rc : pattern → Option (List ReCell)) (hrc : ∀ (a0 : pattern) (r : (List ReCell)), rc a0 = some r → evFL T 45 [.tp .imm 3 [encpattern .imm a0] 0 0] [] = some (.sl 0 0 r.length, [some ⟨.arr, 2, r.map encReCell⟩])) (a0 : pattern) (p1 : Int) (s : (Int × List ReCell)) (o : (List ReCell)) (h : loopP (m45_1b rc a0 p1) s = some o) : evCL T 0 (.loop k45_1b) (E45_1 a0 p1 s).1 (E45_1 a0 p1 s).2 = some (X45_1 a0 p1 o) :=
  loop_walk (E := E45_1 a0 p1) (X := X45_1 a0 p1) (by intro b; (simp only [X45_1]; nofun)) (b45_1 rc hrc a0 p1) s o h
theorem e45r (rc : pattern → Option (List ReCell)) (hrc : ∀ (a0 : pattern) (r : (List ReCell)), rc a0 = some r → evFL T 45 [.tp .imm 3 [encpattern .imm a0] 0 0] [] = some (.sl 0 0 r.length, [some ⟨.arr, 2, r.map encReCell⟩])) (a0 : pattern) (r : (List ReCell)) (h : m45r rc a0 = some r) : evFL T 45 [.tp .imm 3 [encpattern .imm a0] 0 0] [] = some (.sl 0 0 r.length, [some ⟨.arr, 2, r.map encReCell⟩]) := by
  unfold m45r at h
  rw [evFL_at fn45 (Nat.le_of_ble_eq_true rfl) rfl (.inr rfl) ⟨rfl, rfl⟩]
  obtain ⟨v27, q25, h⟩ := bnd_some h
  have w26 := e45_1 rc hrc a0 (↑a0.parts.length : Int) (0, [a0.cell]) v27 q25
  simp only [E45_1, X45_1] at w26
  try simp -implicitDefEqProofs only [go_sem, Nat.reduceLT, Nat.reduceAdd, Nat.reduceSub, Nat.reduceMul, Nat.reduceEqDiff, Nat.reduceBEq, Nat.reduceLeDiff, Int.reduceToNat, Int.reduceLT, Int.reduceLE, Int.reduceEq, reduceCtorEq, ↓reduceIte] at w26
  cases h
  simp -implicitDefEqProofs only [go_sem, Nat.reduceLT, Nat.reduceAdd, Nat.reduceSub, Nat.reduceMul, Nat.reduceEqDiff, Nat.reduceBEq, Nat.reduceLeDiff, Int.reduceToNat, Int.reduceLT, Int.reduceLE, Int.reduceEq, reduceCtorEq, ↓reduceIte, i45, c45, w26]
theorem e45k : ∀ (k : Nat) (a0 : pattern) (r : (List ReCell)) (h : m45k k a0 = some r), evFL T 45 [.tp .imm 3 [encpattern .imm a0] 0 0] [] = some (.sl 0 0 r.length, [some ⟨.arr, 2, r.map encReCell⟩]) := by
  intro k
  induction k with
  | zero => intro a0 r h; cases h
  | succ k ih => intro a0 r h; exact e45r (m45k k) (fun a0 r h => ih a0 r h) a0 r h
theorem e45 (a0 : pattern) (r : (List ReCell)) (h : m45 a0 = some r) : evFL T 45 [.tp .imm 3 [encpattern .imm a0] 0 0] [] = some (.sl 0 0 r.length, [some ⟨.arr, 2, r.map encReCell⟩]) := by
  obtain ⟨N, hN⟩ := limO_iff.1 h
  exact e45k N a0 r (hN N (Nat.le_refl N))
-- f70 slices.Equal[[]impl.ReCell,impl.ReCell]
theorem call70 (args : List AV) (S : St) : evCall T (evFL T) 70 args S = lendC (evFL T 70) S (lendAll S [[2], [2]] args) := evCall0 fn70 rfl rfl rfl args S
theorem callz70 (args : List AV) (S : St) : evCallFz T (evFL T) 70 args S = lendZ (evFL T 70) S [[0]] (lendAll S [[2], [2]] args) := evCallFz0 fn70 rfl rfl rfl args S
attribute [go_sem] call70 callz70
noncomputable def X70_1 (a0 : (List ReCell)) (a1 : (List ReCell)) (p2 : Int) (o : (Unit ⊕ Unit)) : Ex × Fr × St :=
  match o with
  | .inl o => (.exit 0, frOf 26 (anyF), [])
  | .inr o => (.ret, frOf 26 (upd anyF 4 (.bool false)), [])
noncomputable def E70_1 (a0 : (List ReCell)) (a1 : (List ReCell)) (p2 : Int) (s : Int) : Fr × St := (frOf 26 (upd (upd (upd (upd anyF 0 (.ts .imm 2 (a0.map encReCell))) 1 (.ts .imm 2 (a1.map encReCell))) 12 (.int .i64 p2)) 13 (.int .i64 s)), [])
theorem b70_1 (a0 : (List ReCell)) (a1 : (List ReCell)) (p2 : Int) (s : Int) (o : Ctl Int (Unit ⊕ Unit)) (h : m70_1b a0 a1 p2 s = some o) : evCL T 0 k70_1b (E70_1 a0 a1 p2 s).1 (E70_1 a0 a1 p2 s).2 = some (ctlX (E70_1 a0 a1 p2) (X70_1 a0 a1 p2) o) := by
  unfold m70_1b at h
  revert h
  generalize s = s15
  intro h
  try simp -implicitDefEqProofs only [go_sem, Nat.reduceLT, Nat.reduceAdd, Nat.reduceSub, Nat.reduceMul, Nat.reduceEqDiff, Nat.reduceBEq, Nat.reduceLeDiff, Int.reduceToNat, Int.reduceLT, Int.reduceLE, Int.reduceEq, reduceCtorEq, ↓reduceIte, E70_1, X70_1, k70_1b]
  cases b16 : (ltI s15 p2 : Bool)
  · replace h := br_f b16 h
    cases h
    simp -implicitDefEqProofs only [go_sem, Nat.reduceLT, Nat.reduceAdd, Nat.reduceSub, Nat.reduceMul, Nat.reduceEqDiff, Nat.reduceBEq, Nat.reduceLeDiff, Int.reduceToNat, Int.reduceLT, Int.reduceLE, Int.reduceEq, reduceCtorEq, ↓reduceIte, E70_1, X70_1, k70_1b, b16]
  · replace h := br_t b16 h
    obtain ⟨x17, q18, h⟩ := bnd_some h
    obtain ⟨g19, g20, g21⟩ := idx_row encReCell q18
    try simp -implicitDefEqProofs only [go_sem, Nat.reduceLT, Nat.reduceAdd, Nat.reduceSub, Nat.reduceMul, Nat.reduceEqDiff, Nat.reduceBEq, Nat.reduceLeDiff, Int.reduceToNat, Int.reduceLT, Int.reduceLE, Int.reduceEq, reduceCtorEq, ↓reduceIte] at g20
    try simp -implicitDefEqProofs only [go_sem, Nat.reduceLT, Nat.reduceAdd, Nat.reduceSub, Nat.reduceMul, Nat.reduceEqDiff, Nat.reduceBEq, Nat.reduceLeDiff, Int.reduceToNat, Int.reduceLT, Int.reduceLE, Int.reduceEq, reduceCtorEq, ↓reduceIte] at g21
    obtain ⟨x22, q23, h⟩ := bnd_some h
    obtain ⟨g24, g25, g26⟩ := idx_row encReCell q23
    try simp -implicitDefEqProofs only [go_sem, Nat.reduceLT, Nat.reduceAdd, Nat.reduceSub, Nat.reduceMul, Nat.reduceEqDiff, Nat.reduceBEq, Nat.reduceLeDiff, Int.reduceToNat, Int.reduceLT, Int.reduceLE, Int.reduceEq, reduceCtorEq, ↓reduceIte] at g25
    try simp -implicitDefEqProofs only [go_sem, Nat.reduceLT, Nat.reduceAdd, Nat.reduceSub, Nat.reduceMul, Nat.reduceEqDiff, Nat.reduceBEq, Nat.reduceLeDiff, Int.reduceToNat, Int.reduceLT, Int.reduceLE, Int.reduceEq, reduceCtorEq, ↓reduceIte] at g26
    try simp -implicitDefEqProofs only [go_sem, Nat.reduceLT, Nat.reduceAdd, Nat.reduceSub, Nat.reduceMul, Nat.reduceEqDiff, Nat.reduceBEq, Nat.reduceLeDiff, Int.reduceToNat, Int.reduceLT, Int.reduceLE, Int.reduceEq, reduceCtorEq, ↓reduceIte, E70_1, X70_1, k70_1b, b16, g19, g20, g21, g24, g25, g26]
    cases b27 : (eqI x17.kind x22.kind && eqI x17.n x22.n : Bool)
    · replace h := br_f b27 h
      cases h
      simp -implicitDefEqProofs only [go_sem, Nat.reduceLT, Nat.reduceAdd, Nat.reduceSub, Nat.reduceMul, Nat.reduceEqDiff, Nat.reduceBEq, Nat.reduceLeDiff, Int.reduceToNat, Int.reduceLT, Int.reduceLE, Int.reduceEq, reduceCtorEq, ↓reduceIte, E70_1, X70_1, k70_1b, b16, g19, g20, g21, g24, g25, g26, b27]
    · replace h := br_t b27 h
      cases h
      simp -implicitDefEqProofs only [go_sem, Nat.reduceLT, Nat.reduceAdd, Nat.reduceSub, Nat.reduceMul, Nat.reduceEqDiff, Nat.reduceBEq, Nat.reduceLeDiff, Int.reduceToNat, Int.reduceLT, Int.reduceLE, Int.reduceEq, reduceCtorEq, ↓reduceIte, E70_1, X70_1, k70_1b, b16, g19, g20, g21, g24, g25, g26, b27]
theorem e70_1 (a0 : (List ReCell)) (a1 : (List ReCell)) (p2 : Int) (s : Int) (o : (Unit ⊕ Unit)) (h : loopP (m70_1b a0 a1 p2) s = some o) : evCL T 0 (.loop k70_1b) (E70_1 a0 a1 p2 s).1 (E70_1 a0 a1 p2 s).2 = some (X70_1 a0 a1 p2 o) :=
  loop_walk (E := E70_1 a0 a1 p2) (X := X70_1 a0 a1 p2) (by intro b; rcases b with b | b <;> (simp only [X70_1]; nofun)) (b70_1 a0 a1 p2) s o h
theorem e70 (a0 : (List ReCell)) (a1 : (List ReCell)) (r : Bool) (h : m70 a0 a1 = some r) : evFL T 70 [.ts .imm 2 (a0.map encReCell), .ts .imm 2 (a1.map encReCell)] [] = some (.bool r, []) := by
  unfold m70 at h
  rw [evFL_at fn70 (Nat.le_of_ble_eq_true rfl) rfl (.inr rfl) ⟨rfl, rfl⟩]
  try simp -implicitDefEqProofs only [go_sem, Nat.reduceLT, Nat.reduceAdd, Nat.reduceSub, Nat.reduceMul, Nat.reduceEqDiff, Nat.reduceBEq, Nat.reduceLeDiff, Int.reduceToNat, Int.reduceLT, Int.reduceLE, Int.reduceEq, reduceCtorEq, ↓reduceIte, i70, c70]
  cases b1 : (eqI (↑a0.length : Int) (↑a1.length : Int) : Bool)
  · replace h := br_f b1 h
    cases h
    simp -implicitDefEqProofs only [go_sem, Nat.reduceLT, Nat.reduceAdd, Nat.reduceSub, Nat.reduceMul, Nat.reduceEqDiff, Nat.reduceBEq, Nat.reduceLeDiff, Int.reduceToNat, Int.reduceLT, Int.reduceLE, Int.reduceEq, reduceCtorEq, ↓reduceIte, i70, c70, b1]
  · replace h := br_t b1 h
    try simp -implicitDefEqProofs only [go_sem, Nat.reduceLT, Nat.reduceAdd, Nat.reduceSub, Nat.reduceMul, Nat.reduceEqDiff, Nat.reduceBEq, Nat.reduceLeDiff, Int.reduceToNat, Int.reduceLT, Int.reduceLE, Int.reduceEq, reduceCtorEq, ↓reduceIte, i70, c70, b1]
    obtain ⟨o, q28, h⟩ := bnd_some h
    rcases o with ⟨⟩ | ⟨⟩
    · replace h := selS_l h
      have w29 := e70_1 a0 a1 (↑a0.length : Int) 0 (.inl ()) q28
      simp only [E70_1, X70_1] at w29
      try simp -implicitDefEqProofs only [go_sem, Nat.reduceLT, Nat.reduceAdd, Nat.reduceSub, Nat.reduceMul, Nat.reduceEqDiff, Nat.reduceBEq, Nat.reduceLeDiff, Int.reduceToNat, Int.reduceLT, Int.reduceLE, Int.reduceEq, reduceCtorEq, ↓reduceIte] at w29
      cases h
      simp -implicitDefEqProofs only [go_sem, Nat.reduceLT, Nat.reduceAdd, Nat.reduceSub, Nat.reduceMul, Nat.reduceEqDiff, Nat.reduceBEq, Nat.reduceLeDiff, Int.reduceToNat, Int.reduceLT, Int.reduceLE, Int.reduceEq, reduceCtorEq, ↓reduceIte, i70, c70, b1, w29]
    · replace h := selS_r h
      have w29 := e70_1 a0 a1 (↑a0.length : Int) 0 (.inr ()) q28
      simp only [E70_1, X70_1] at w29
      try simp -implicitDefEqProofs only [go_sem, Nat.reduceLT, Nat.reduceAdd, Nat.reduceSub, Nat.reduceMul, Nat.reduceEqDiff, Nat.reduceBEq, Nat.reduceLeDiff, Int.reduceToNat, Int.reduceLT, Int.reduceLE, Int.reduceEq, reduceCtorEq, ↓reduceIte] at w29
      cases h
      simp -implicitDefEqProofs only [go_sem, Nat.reduceLT, Nat.reduceAdd, Nat.reduceSub, Nat.reduceMul, Nat.reduceEqDiff, Nat.reduceBEq, Nat.reduceLeDiff, Int.reduceToNat, Int.reduceLT, Int.reduceLE, Int.reduceEq, reduceCtorEq, ↓reduceIte, i70, c70, b1, w29]
-- f44 (*impl.pattern).tidy
theorem call44 (args : List AV) (S : St) : evCall T (evFL T) 44 args S = treeC false (evFL T 44) S args (lendAll S [[0]] args) := evCallT fn44 rfl rfl rfl args S
attribute [go_sem] call44
noncomputable def X44_1 (a0 : pattern) (p1 : Int) (o : (List pattern)) : Ex × Fr × St :=
  (.exit 0, frOf 125 (upd (upd anyF 0 (.tp .imm 3 [encpattern .imm a0] 0 0)) 3 (.ptr 0 0 0)), [some ⟨.box, 1, [[.ptr 1 0 0]]⟩, some ⟨.box, 3, [[.int .i64 a0.cell.kind, .int .i64 a0.cell.n, .sl 2 0 o.length]]⟩, some ⟨.arr, 1, o.map (encPpattern .imm)⟩])
noncomputable def E44_1 (a0 : pattern) (p1 : Int) (s : (Int × List pattern)) : Fr × St := (frOf 125 (upd (upd (upd (upd (upd anyF 0 (.tp .imm 3 [encpattern .imm a0] 0 0)) 3 (.ptr 0 0 0)) 16 (.ts .imm 1 (a0.parts.map (encPpattern .imm)))) 17 (.int .i64 p1)) 18 (.int .i64 s.1)), [some ⟨.box, 1, [[.ptr 1 0 0]]⟩, some ⟨.box, 3, [[.int .i64 a0.cell.kind, .int .i64 a0.cell.n, .sl 2 0 s.2.length]]⟩, some ⟨.arr, 1, s.2.map (encPpattern .imm)⟩])
theorem b44_1 (rc : pattern → Option pattern) (hrc : ∀ (a0 : pattern) (r : pattern), rc a0 = some r → evFL T 44 [.tp .imm 3 [encpattern .imm a0] 0 0] [] = some (.tp .imm 3 [encpattern .imm r] 0 0, [])) (a0 : pattern) (p1 : Int) (s : (Int × List pattern)) (o : Ctl (Int × List pattern) (List pattern)) (h : m44_1b rc a0 p1 s = some o) : evCL T 0 k44_1b (E44_1 a0 p1 s).1 (E44_1 a0 p1 s).2 = some (ctlX (E44_1 a0 p1) (X44_1 a0 p1) o) := by
  unfold m44_1b at h
  obtain ⟨s11, s12⟩ := s
  replace h := sel2_some h
  try simp -implicitDefEqProofs only [go_sem, Nat.reduceLT, Nat.reduceAdd, Nat.reduceSub, Nat.reduceMul, Nat.reduceEqDiff, Nat.reduceBEq, Nat.reduceLeDiff, Int.reduceToNat, Int.reduceLT, Int.reduceLE, Int.reduceEq, reduceCtorEq, ↓reduceIte, E44_1, X44_1, k44_1b]
  cases b13 : (ltI s11 p1 : Bool)
  · replace h := br_f b13 h
    cases h
    simp -implicitDefEqProofs only [go_sem, Nat.reduceLT, Nat.reduceAdd, Nat.reduceSub, Nat.reduceMul, Nat.reduceEqDiff, Nat.reduceBEq, Nat.reduceLeDiff, Int.reduceToNat, Int.reduceLT, Int.reduceLE, Int.reduceEq, reduceCtorEq, ↓reduceIte, E44_1, X44_1, k44_1b, b13]
  · replace h := br_t b13 h
    obtain ⟨x14, q15, h⟩ := bnd_some h
    obtain ⟨g16, g17, g18⟩ := idx_row (encPpattern .imm) q15
    try simp -implicitDefEqProofs only [go_sem, Nat.reduceLT, Nat.reduceAdd, Nat.reduceSub, Nat.reduceMul, Nat.reduceEqDiff, Nat.reduceBEq, Nat.reduceLeDiff, Int.reduceToNat, Int.reduceLT, Int.reduceLE, Int.reduceEq, reduceCtorEq, ↓reduceIte] at g17
    try simp -implicitDefEqProofs only [go_sem, Nat.reduceLT, Nat.reduceAdd, Nat.reduceSub, Nat.reduceMul, Nat.reduceEqDiff, Nat.reduceBEq, Nat.reduceLeDiff, Int.reduceToNat, Int.reduceLT, Int.reduceLE, Int.reduceEq, reduceCtorEq, ↓reduceIte] at g18
    obtain ⟨r21, q19, h⟩ := bnd_some h
    have w20 := hrc x14 r21 q19
    try simp -implicitDefEqProofs only [go_sem, Nat.reduceLT, Nat.reduceAdd, Nat.reduceSub, Nat.reduceMul, Nat.reduceEqDiff, Nat.reduceBEq, Nat.reduceLeDiff, Int.reduceToNat, Int.reduceLT, Int.reduceLE, Int.reduceEq, reduceCtorEq, ↓reduceIte] at w20
    obtain ⟨g22, h⟩ := ck_some h
    try simp -implicitDefEqProofs only [go_sem, Nat.reduceLT, Nat.reduceAdd, Nat.reduceSub, Nat.reduceMul, Nat.reduceEqDiff, Nat.reduceBEq, Nat.reduceLeDiff, Int.reduceToNat, Int.reduceLT, Int.reduceLE, Int.reduceEq, reduceCtorEq, ↓reduceIte] at g22
    cases h
    simp -implicitDefEqProofs only [go_sem, Nat.reduceLT, Nat.reduceAdd, Nat.reduceSub, Nat.reduceMul, Nat.reduceEqDiff, Nat.reduceBEq, Nat.reduceLeDiff, Int.reduceToNat, Int.reduceLT, Int.reduceLE, Int.reduceEq, reduceCtorEq, ↓reduceIte, E44_1, X44_1, k44_1b, b13, g16, g17, g18, w20, g22]
theorem e44_1 (rc : pattern → Option pattern) (hrc : ∀ (a0 : pattern) (r : pattern), rc a0 = some r → evFL T 44 [.tp .imm 3 [encpattern .imm a0] 0 0] [] = some (.tp .imm 3 [encpattern .imm r] 0 0, [])) (a0 : pattern) (p1 : Int) (s : (Int × List pattern)) (o : (List pattern)) (h : loopP (m44_1b rc a0 p1) s = some o) : evCL T 0 (.loop k44_1b) (E44_1 a0 p1 s).1 (E44_1 a0 p1 s).2 = some (X44_1 a0 p1 o) :=
  loop_walk (E := E44_1 a0 p1) (X := X44_1 a0 p1) (by intro b; (simp only [X44_1]; nofun)) (b44_1 rc hrc a0 p1) s o h
noncomputable def X44_3 (p27 : pattern) (o : Bool) : Ex × Fr × St :=
  (.normal, frOf 125 (upd (upd (upd anyF 3 (.ptr 0 0 0)) 6 (.fn 69 [.ptr 0 0 0])) 42 (.bool o)), [some ⟨.box, 1, [[.tp .imm 3 [encpattern .imm p27] 0 0]]⟩])
theorem e44_3 (rc : pattern → Option pattern) (hrc : ∀ (a0 : pattern) (r : pattern), rc a0 = some r → evFL T 44 [.tp .imm 3 [encpattern .imm a0] 0 0] [] = some (.tp .imm 3 [encpattern .imm r] 0 0, [])) (p27 : pattern) (o : Bool) (h : m44_3 rc p27 = some o) : evCL T 0 k44_3 (frOf 125 (upd (upd anyF 3 (.ptr 0 0 0)) 6 (.fn 69 [.ptr 0 0 0]))) [some ⟨.box, 1, [[.tp .imm 3 [encpattern .imm p27] 0 0]]⟩] = some (X44_3 p27 o) := by
  unfold m44_3 at h
  obtain ⟨r31, q29, h⟩ := bnd_some h
  have w30 := e69 0 1 p27 r31 q29
  try simp -implicitDefEqProofs only [go_sem, Nat.reduceLT, Nat.reduceAdd, Nat.reduceSub, Nat.reduceMul, Nat.reduceEqDiff, Nat.reduceBEq, Nat.reduceLeDiff, Int.reduceToNat, Int.reduceLT, Int.reduceLE, Int.reduceEq, reduceCtorEq, ↓reduceIte] at w30
  try simp -implicitDefEqProofs only [go_sem, Nat.reduceLT, Nat.reduceAdd, Nat.reduceSub, Nat.reduceMul, Nat.reduceEqDiff, Nat.reduceBEq, Nat.reduceLeDiff, Int.reduceToNat, Int.reduceLT, Int.reduceLE, Int.reduceEq, reduceCtorEq, ↓reduceIte, X44_3, k44_3, w30]
  cases b32 : (r31 : Bool)
  · replace h := br_f b32 h
    obtain ⟨r35, q33, h⟩ := bnd_some h
    have w34 := e69 1 1 p27 r35 q33
    try simp -implicitDefEqProofs only [go_sem, Nat.reduceLT, Nat.reduceAdd, Nat.reduceSub, Nat.reduceMul, Nat.reduceEqDiff, Nat.reduceBEq, Nat.reduceLeDiff, Int.reduceToNat, Int.reduceLT, Int.reduceLE, Int.reduceEq, reduceCtorEq, ↓reduceIte] at w34
    cases h
    simp -implicitDefEqProofs only [go_sem, Nat.reduceLT, Nat.reduceAdd, Nat.reduceSub, Nat.reduceMul, Nat.reduceEqDiff, Nat.reduceBEq, Nat.reduceLeDiff, Int.reduceToNat, Int.reduceLT, Int.reduceLE, Int.reduceEq, reduceCtorEq, ↓reduceIte, X44_3, k44_3, w30, b32, w34]
  · replace h := br_t b32 h
    cases h
    simp -implicitDefEqProofs only [go_sem, Nat.reduceLT, Nat.reduceAdd, Nat.reduceSub, Nat.reduceMul, Nat.reduceEqDiff, Nat.reduceBEq, Nat.reduceLeDiff, Int.reduceToNat, Int.reduceLT, Int.reduceLE, Int.reduceEq, reduceCtorEq, ↓reduceIte, X44_3, k44_3, w30, b32]
noncomputable def X44_5 (p27 : pattern) (o : Bool) : Ex × Fr × St :=
  (.normal, frOf 125 (upd (upd anyF 3 (.ptr 0 0 0)) 79 (.bool o)), [some ⟨.box, 1, [[.tp .imm 3 [encpattern .imm p27] 0 0]]⟩])
theorem e44_5 (rc : pattern → Option pattern) (hrc : ∀ (a0 : pattern) (r : pattern), rc a0 = some r → evFL T 44 [.tp .imm 3 [encpattern .imm a0] 0 0] [] = some (.tp .imm 3 [encpattern .imm r] 0 0, [])) (p27 : pattern) (o : Bool) (h : m44_5 rc p27 = some o) : evCL T 0 k44_5 (frOf 125 (upd (upd anyF 3 (.ptr 0 0 0)) 6 (.fn 69 [.ptr 0 0 0]))) [some ⟨.box, 1, [[.tp .imm 3 [encpattern .imm p27] 0 0]]⟩] = some (X44_5 p27 o) := by
  unfold m44_5 at h
  obtain ⟨r74, q72, h⟩ := bnd_some h
  have w73 := e69 1 1 p27 r74 q72
  try simp -implicitDefEqProofs only [go_sem, Nat.reduceLT, Nat.reduceAdd, Nat.reduceSub, Nat.reduceMul, Nat.reduceEqDiff, Nat.reduceBEq, Nat.reduceLeDiff, Int.reduceToNat, Int.reduceLT, Int.reduceLE, Int.reduceEq, reduceCtorEq, ↓reduceIte] at w73
  try simp -implicitDefEqProofs only [go_sem, Nat.reduceLT, Nat.reduceAdd, Nat.reduceSub, Nat.reduceMul, Nat.reduceEqDiff, Nat.reduceBEq, Nat.reduceLeDiff, Int.reduceToNat, Int.reduceLT, Int.reduceLE, Int.reduceEq, reduceCtorEq, ↓reduceIte, X44_5, k44_5, w73]
  cases b75 : (r74 : Bool)
  · replace h := br_f b75 h
    obtain ⟨x76, q77, h⟩ := bnd_some h
    obtain ⟨g78, g79, g80⟩ := idx_row (encPpattern .imm) q77
    try simp -implicitDefEqProofs only [go_sem, Nat.reduceLT, Nat.reduceAdd, Nat.reduceSub, Nat.reduceMul, Nat.reduceEqDiff, Nat.reduceBEq, Nat.reduceLeDiff, Int.reduceToNat, Int.reduceLT, Int.reduceLE, Int.reduceEq, reduceCtorEq, ↓reduceIte] at g79
    try simp -implicitDefEqProofs only [go_sem, Nat.reduceLT, Nat.reduceAdd, Nat.reduceSub, Nat.reduceMul, Nat.reduceEqDiff, Nat.reduceBEq, Nat.reduceLeDiff, Int.reduceToNat, Int.reduceLT, Int.reduceLE, Int.reduceEq, reduceCtorEq, ↓reduceIte] at g80
    obtain ⟨r83, q81, h⟩ := bnd_some h
    have w82 := e45 x76 r83 q81
    try simp -implicitDefEqProofs only [go_sem, Nat.reduceLT, Nat.reduceAdd, Nat.reduceSub, Nat.reduceMul, Nat.reduceEqDiff, Nat.reduceBEq, Nat.reduceLeDiff, Int.reduceToNat, Int.reduceLT, Int.reduceLE, Int.reduceEq, reduceCtorEq, ↓reduceIte] at w82
    obtain ⟨x84, q85, h⟩ := bnd_some h
    obtain ⟨g86, g87, g88⟩ := idx_row (encPpattern .imm) q85
    try simp -implicitDefEqProofs only [go_sem, Nat.reduceLT, Nat.reduceAdd, Nat.reduceSub, Nat.reduceMul, Nat.reduceEqDiff, Nat.reduceBEq, Nat.reduceLeDiff, Int.reduceToNat, Int.reduceLT, Int.reduceLE, Int.reduceEq, reduceCtorEq, ↓reduceIte] at g87
    try simp -implicitDefEqProofs only [go_sem, Nat.reduceLT, Nat.reduceAdd, Nat.reduceSub, Nat.reduceMul, Nat.reduceEqDiff, Nat.reduceBEq, Nat.reduceLeDiff, Int.reduceToNat, Int.reduceLT, Int.reduceLE, Int.reduceEq, reduceCtorEq, ↓reduceIte] at g88
    obtain ⟨r91, q89, h⟩ := bnd_some h
    have w90 := e45 x84 r91 q89
    try simp -implicitDefEqProofs only [go_sem, Nat.reduceLT, Nat.reduceAdd, Nat.reduceSub, Nat.reduceMul, Nat.reduceEqDiff, Nat.reduceBEq, Nat.reduceLeDiff, Int.reduceToNat, Int.reduceLT, Int.reduceLE, Int.reduceEq, reduceCtorEq, ↓reduceIte] at w90
    obtain ⟨r94, q92, h⟩ := bnd_some h
    have w93 := e70 r83 r91 r94 q92
    try simp -implicitDefEqProofs only [go_sem, Nat.reduceLT, Nat.reduceAdd, Nat.reduceSub, Nat.reduceMul, Nat.reduceEqDiff, Nat.reduceBEq, Nat.reduceLeDiff, Int.reduceToNat, Int.reduceLT, Int.reduceLE, Int.reduceEq, reduceCtorEq, ↓reduceIte] at w93
    cases h
    simp -implicitDefEqProofs only [go_sem, Nat.reduceLT, Nat.reduceAdd, Nat.reduceSub, Nat.reduceMul, Nat.reduceEqDiff, Nat.reduceBEq, Nat.reduceLeDiff, Int.reduceToNat, Int.reduceLT, Int.reduceLE, Int.reduceEq, reduceCtorEq, ↓reduceIte, X44_5, k44_5, w73, b75, g78, g79, g80, w82, g86, g87, g88, w90, w93]
  · replace h := br_t b75 h
    cases h
    simp -implicitDefEqProofs only [go_sem, Nat.reduceLT, Nat.reduceAdd, Nat.reduceSub, Nat.reduceMul, Nat.reduceEqDiff, Nat.reduceBEq, Nat.reduceLeDiff, Int.reduceToNat, Int.reduceLT, Int.reduceLE, Int.reduceEq, reduceCtorEq, ↓reduceIte, X44_5, k44_5, w73, b75]
noncomputable def X44_7 (p27 : pattern) (o : Bool) : Ex × Fr × St :=
  (.normal, frOf 125 (upd (upd (upd anyF 3 (.ptr 0 0 0)) 6 (.fn 69 [.ptr 0 0 0])) 107 (.bool o)), [some ⟨.box, 1, [[.tp .imm 3 [encpattern .imm p27] 0 0]]⟩])
theorem e44_7 (rc : pattern → Option pattern) (hrc : ∀ (a0 : pattern) (r : pattern), rc a0 = some r → evFL T 44 [.tp .imm 3 [encpattern .imm a0] 0 0] [] = some (.tp .imm 3 [encpattern .imm r] 0 0, [])) (p27 : pattern) (o : Bool) (h : m44_7 rc p27 = some o) : evCL T 0 k44_7 (frOf 125 (upd (upd anyF 3 (.ptr 0 0 0)) 6 (.fn 69 [.ptr 0 0 0]))) [some ⟨.box, 1, [[.tp .imm 3 [encpattern .imm p27] 0 0]]⟩] = some (X44_7 p27 o) := by
  unfold m44_7 at h
  obtain ⟨r108, q106, h⟩ := bnd_some h
  have w107 := e69 0 1 p27 r108 q106
  try simp -implicitDefEqProofs only [go_sem, Nat.reduceLT, Nat.reduceAdd, Nat.reduceSub, Nat.reduceMul, Nat.reduceEqDiff, Nat.reduceBEq, Nat.reduceLeDiff, Int.reduceToNat, Int.reduceLT, Int.reduceLE, Int.reduceEq, reduceCtorEq, ↓reduceIte] at w107
  try simp -implicitDefEqProofs only [go_sem, Nat.reduceLT, Nat.reduceAdd, Nat.reduceSub, Nat.reduceMul, Nat.reduceEqDiff, Nat.reduceBEq, Nat.reduceLeDiff, Int.reduceToNat, Int.reduceLT, Int.reduceLE, Int.reduceEq, reduceCtorEq, ↓reduceIte, X44_7, k44_7, w107]
  cases b109 : (r108 : Bool)
  · replace h := br_f b109 h
    obtain ⟨r112, q110, h⟩ := bnd_some h
    have w111 := e69 0 2 p27 r112 q110
    try simp -implicitDefEqProofs only [go_sem, Nat.reduceLT, Nat.reduceAdd, Nat.reduceSub, Nat.reduceMul, Nat.reduceEqDiff, Nat.reduceBEq, Nat.reduceLeDiff, Int.reduceToNat, Int.reduceLT, Int.reduceLE, Int.reduceEq, reduceCtorEq, ↓reduceIte] at w111
    cases h
    simp -implicitDefEqProofs only [go_sem, Nat.reduceLT, Nat.reduceAdd, Nat.reduceSub, Nat.reduceMul, Nat.reduceEqDiff, Nat.reduceBEq, Nat.reduceLeDiff, Int.reduceToNat, Int.reduceLT, Int.reduceLE, Int.reduceEq, reduceCtorEq, ↓reduceIte, X44_7, k44_7, w107, b109, w111]
  · replace h := br_t b109 h
    cases h
    simp -implicitDefEqProofs only [go_sem, Nat.reduceLT, Nat.reduceAdd, Nat.reduceSub, Nat.reduceMul, Nat.reduceEqDiff, Nat.reduceBEq, Nat.reduceLeDiff, Int.reduceToNat, Int.reduceLT, Int.reduceLE, Int.reduceEq, reduceCtorEq, ↓reduceIte, X44_7, k44_7, w107, b109]
noncomputable def X44_6 (p104 : Bool) (p27 : pattern) (o : (Unit ⊕ pattern)) : Ex × Fr × St :=
  match o with
  | .inl o => (.normal, frOf 125 (upd anyF 3 (.ptr 0 0 0)), [some ⟨.box, 1, [[.tp .imm 3 [encpattern .imm p27] 0 0]]⟩])
  | .inr o => (.ret, frOf 125 (upd anyF 2 (.tp .imm 3 [encpattern .imm o] 0 0)), [])
theorem e44_6 (rc : pattern → Option pattern) (hrc : ∀ (a0 : pattern) (r : pattern), rc a0 = some r → evFL T 44 [.tp .imm 3 [encpattern .imm a0] 0 0] [] = some (.tp .imm 3 [encpattern .imm r] 0 0, [])) (p104 : Bool) (p27 : pattern) (o : (Unit ⊕ pattern)) (h : m44_6 rc p104 p27 = some o) : evCL T 0 k44_6 (frOf 125 (upd (upd (upd anyF 3 (.ptr 0 0 0)) 6 (.fn 69 [.ptr 0 0 0])) 105 (.bool p104))) [some ⟨.box, 1, [[.tp .imm 3 [encpattern .imm p27] 0 0]]⟩] = some (X44_6 p104 p27 o) := by
  unfold m44_6 at h
  try simp -implicitDefEqProofs only [go_sem, Nat.reduceLT, Nat.reduceAdd, Nat.reduceSub, Nat.reduceMul, Nat.reduceEqDiff, Nat.reduceBEq, Nat.reduceLeDiff, Int.reduceToNat, Int.reduceLT, Int.reduceLE, Int.reduceEq, reduceCtorEq, ↓reduceIte, X44_6, k44_6]
  cases b105 : (p104 : Bool)
  · replace h := br_f b105 h
    cases h
    simp -implicitDefEqProofs only [go_sem, Nat.reduceLT, Nat.reduceAdd, Nat.reduceSub, Nat.reduceMul, Nat.reduceEqDiff, Nat.reduceBEq, Nat.reduceLeDiff, Int.reduceToNat, Int.reduceLT, Int.reduceLE, Int.reduceEq, reduceCtorEq, ↓reduceIte, X44_6, k44_6, b105]
  · replace h := br_t b105 h
    obtain ⟨v115, q113, h⟩ := bnd_some h
    have w114 := e44_7 rc hrc p27 v115 q113
    simp only [X44_7] at w114
    try simp -implicitDefEqProofs only [go_sem, Nat.reduceLT, Nat.reduceAdd, Nat.reduceSub, Nat.reduceMul, Nat.reduceEqDiff, Nat.reduceBEq, Nat.reduceLeDiff, Int.reduceToNat, Int.reduceLT, Int.reduceLE, Int.reduceEq, reduceCtorEq, ↓reduceIte] at w114
    try simp -implicitDefEqProofs only [go_sem, Nat.reduceLT, Nat.reduceAdd, Nat.reduceSub, Nat.reduceMul, Nat.reduceEqDiff, Nat.reduceBEq, Nat.reduceLeDiff, Int.reduceToNat, Int.reduceLT, Int.reduceLE, Int.reduceEq, reduceCtorEq, ↓reduceIte, X44_6, k44_6, b105, w114]
    cases b116 : (v115 : Bool)
    · replace h := br_f b116 h
      obtain ⟨r122, q120, h⟩ := bnd_some h
      have w121 := e69 0 7 p27 r122 q120
      try simp -implicitDefEqProofs only [go_sem, Nat.reduceLT, Nat.reduceAdd, Nat.reduceSub, Nat.reduceMul, Nat.reduceEqDiff, Nat.reduceBEq, Nat.reduceLeDiff, Int.reduceToNat, Int.reduceLT, Int.reduceLE, Int.reduceEq, reduceCtorEq, ↓reduceIte] at w121
      try simp -implicitDefEqProofs only [go_sem, Nat.reduceLT, Nat.reduceAdd, Nat.reduceSub, Nat.reduceMul, Nat.reduceEqDiff, Nat.reduceBEq, Nat.reduceLeDiff, Int.reduceToNat, Int.reduceLT, Int.reduceLE, Int.reduceEq, reduceCtorEq, ↓reduceIte, X44_6, k44_6, b105, w114, b116, w121]
      cases b123 : (r122 : Bool)
      · replace h := br_f b123 h
        cases h
        simp -implicitDefEqProofs only [go_sem, Nat.reduceLT, Nat.reduceAdd, Nat.reduceSub, Nat.reduceMul, Nat.reduceEqDiff, Nat.reduceBEq, Nat.reduceLeDiff, Int.reduceToNat, Int.reduceLT, Int.reduceLE, Int.reduceEq, reduceCtorEq, ↓reduceIte, X44_6, k44_6, b105, w114, b116, w121, b123]
      · replace h := br_t b123 h
        obtain ⟨x124, q125, h⟩ := bnd_some h
        obtain ⟨g126, g127, g128⟩ := idx_row (encPpattern .imm) q125
        try simp -implicitDefEqProofs only [go_sem, Nat.reduceLT, Nat.reduceAdd, Nat.reduceSub, Nat.reduceMul, Nat.reduceEqDiff, Nat.reduceBEq, Nat.reduceLeDiff, Int.reduceToNat, Int.reduceLT, Int.reduceLE, Int.reduceEq, reduceCtorEq, ↓reduceIte] at g127
        try simp -implicitDefEqProofs only [go_sem, Nat.reduceLT, Nat.reduceAdd, Nat.reduceSub, Nat.reduceMul, Nat.reduceEqDiff, Nat.reduceBEq, Nat.reduceLeDiff, Int.reduceToNat, Int.reduceLT, Int.reduceLE, Int.reduceEq, reduceCtorEq, ↓reduceIte] at g128
        cases h
        simp -implicitDefEqProofs only [go_sem, Nat.reduceLT, Nat.reduceAdd, Nat.reduceSub, Nat.reduceMul, Nat.reduceEqDiff, Nat.reduceBEq, Nat.reduceLeDiff, Int.reduceToNat, Int.reduceLT, Int.reduceLE, Int.reduceEq, reduceCtorEq, ↓reduceIte, X44_6, k44_6, b105, w114, b116, w121, b123, g126, g127, g128]
    · replace h := br_t b116 h
      obtain ⟨r119, q117, h⟩ := bnd_some h
      have w118 := e68 2 [] r119 q117
      try simp -implicitDefEqProofs only [go_sem, Nat.reduceLT, Nat.reduceAdd, Nat.reduceSub, Nat.reduceMul, Nat.reduceEqDiff, Nat.reduceBEq, Nat.reduceLeDiff, Int.reduceToNat, Int.reduceLT, Int.reduceLE, Int.reduceEq, reduceCtorEq, ↓reduceIte] at w118
      cases h
      simp -implicitDefEqProofs only [go_sem, Nat.reduceLT, Nat.reduceAdd, Nat.reduceSub, Nat.reduceMul, Nat.reduceEqDiff, Nat.reduceBEq, Nat.reduceLeDiff, Int.reduceToNat, Int.reduceLT, Int.reduceLE, Int.reduceEq, reduceCtorEq, ↓reduceIte, X44_6, k44_6, b105, w114, b116, w118]
noncomputable def X44_4 (a0 : pattern) (p61 : Bool) (p27 : pattern) (o : (Unit ⊕ pattern)) : Ex × Fr × St :=
  match o with
  | .inl o => (.normal, frOf 125 (upd anyF 3 (.ptr 0 0 0)), [some ⟨.box, 1, [[.tp .imm 3 [encpattern .imm p27] 0 0]]⟩])
  | .inr o => (.ret, frOf 125 (upd anyF 2 (.tp .imm 3 [encpattern .imm o] 0 0)), [])
theorem e44_4 (rc : pattern → Option pattern) (hrc : ∀ (a0 : pattern) (r : pattern), rc a0 = some r → evFL T 44 [.tp .imm 3 [encpattern .imm a0] 0 0] [] = some (.tp .imm 3 [encpattern .imm r] 0 0, [])) (a0 : pattern) (p61 : Bool) (p27 : pattern) (o : (Unit ⊕ pattern)) (h : m44_4 rc a0 p61 p27 = some o) : evCL T 0 k44_4 (frOf 125 (upd (upd (upd (upd anyF 3 (.ptr 0 0 0)) 6 (.fn 69 [.ptr 0 0 0])) 39 (.int .i64 a0.cell.kind)) 68 (.bool p61))) [some ⟨.box, 1, [[.tp .imm 3 [encpattern .imm p27] 0 0]]⟩] = some (X44_4 a0 p61 p27 o) := by
  unfold m44_4 at h
  try simp -implicitDefEqProofs only [go_sem, Nat.reduceLT, Nat.reduceAdd, Nat.reduceSub, Nat.reduceMul, Nat.reduceEqDiff, Nat.reduceBEq, Nat.reduceLeDiff, Int.reduceToNat, Int.reduceLT, Int.reduceLE, Int.reduceEq, reduceCtorEq, ↓reduceIte, X44_4, k44_4]
  cases b62 : (p61 : Bool)
  · replace h := br_f b62 h
    try simp -implicitDefEqProofs only [go_sem, Nat.reduceLT, Nat.reduceAdd, Nat.reduceSub, Nat.reduceMul, Nat.reduceEqDiff, Nat.reduceBEq, Nat.reduceLeDiff, Int.reduceToNat, Int.reduceLT, Int.reduceLE, Int.reduceEq, reduceCtorEq, ↓reduceIte, X44_4, k44_4, b62]
    obtain ⟨o, q129, h⟩ := bnd_some h
    rcases o with ⟨⟩ | v131
    · replace h := selS_l h
      have w130 := e44_6 rc hrc (eqI a0.cell.kind 7) p27 (.inl ()) q129
      simp only [X44_6] at w130
      try simp -implicitDefEqProofs only [go_sem, Nat.reduceLT, Nat.reduceAdd, Nat.reduceSub, Nat.reduceMul, Nat.reduceEqDiff, Nat.reduceBEq, Nat.reduceLeDiff, Int.reduceToNat, Int.reduceLT, Int.reduceLE, Int.reduceEq, reduceCtorEq, ↓reduceIte] at w130
      cases h
      simp -implicitDefEqProofs only [go_sem, Nat.reduceLT, Nat.reduceAdd, Nat.reduceSub, Nat.reduceMul, Nat.reduceEqDiff, Nat.reduceBEq, Nat.reduceLeDiff, Int.reduceToNat, Int.reduceLT, Int.reduceLE, Int.reduceEq, reduceCtorEq, ↓reduceIte, X44_4, k44_4, b62, w130]
    · replace h := selS_r h
      have w130 := e44_6 rc hrc (eqI a0.cell.kind 7) p27 (.inr v131) q129
      simp only [X44_6] at w130
      try simp -implicitDefEqProofs only [go_sem, Nat.reduceLT, Nat.reduceAdd, Nat.reduceSub, Nat.reduceMul, Nat.reduceEqDiff, Nat.reduceBEq, Nat.reduceLeDiff, Int.reduceToNat, Int.reduceLT, Int.reduceLE, Int.reduceEq, reduceCtorEq, ↓reduceIte] at w130
      cases h
      simp -implicitDefEqProofs only [go_sem, Nat.reduceLT, Nat.reduceAdd, Nat.reduceSub, Nat.reduceMul, Nat.reduceEqDiff, Nat.reduceBEq, Nat.reduceLeDiff, Int.reduceToNat, Int.reduceLT, Int.reduceLE, Int.reduceEq, reduceCtorEq, ↓reduceIte, X44_4, k44_4, b62, w130]
  · replace h := br_t b62 h
    obtain ⟨r65, q63, h⟩ := bnd_some h
    have w64 := e69 0 1 p27 r65 q63
    try simp -implicitDefEqProofs only [go_sem, Nat.reduceLT, Nat.reduceAdd, Nat.reduceSub, Nat.reduceMul, Nat.reduceEqDiff, Nat.reduceBEq, Nat.reduceLeDiff, Int.reduceToNat, Int.reduceLT, Int.reduceLE, Int.reduceEq, reduceCtorEq, ↓reduceIte] at w64
    try simp -implicitDefEqProofs only [go_sem, Nat.reduceLT, Nat.reduceAdd, Nat.reduceSub, Nat.reduceMul, Nat.reduceEqDiff, Nat.reduceBEq, Nat.reduceLeDiff, Int.reduceToNat, Int.reduceLT, Int.reduceLE, Int.reduceEq, reduceCtorEq, ↓reduceIte, X44_4, k44_4, b62, w64]
    cases b66 : (r65 : Bool)
    · replace h := br_f b66 h
      obtain ⟨v97, q95, h⟩ := bnd_some h
      have w96 := e44_5 rc hrc p27 v97 q95
      simp only [X44_5] at w96
      try simp -implicitDefEqProofs only [go_sem, Nat.reduceLT, Nat.reduceAdd, Nat.reduceSub, Nat.reduceMul, Nat.reduceEqDiff, Nat.reduceBEq, Nat.reduceLeDiff, Int.reduceToNat, Int.reduceLT, Int.reduceLE, Int.reduceEq, reduceCtorEq, ↓reduceIte] at w96
      try simp -implicitDefEqProofs only [go_sem, Nat.reduceLT, Nat.reduceAdd, Nat.reduceSub, Nat.reduceMul, Nat.reduceEqDiff, Nat.reduceBEq, Nat.reduceLeDiff, Int.reduceToNat, Int.reduceLT, Int.reduceLE, Int.reduceEq, reduceCtorEq, ↓reduceIte, X44_4, k44_4, b62, w64, b66, w96]
      cases b98 : (v97 : Bool)
      · replace h := br_f b98 h
        cases h
        simp -implicitDefEqProofs only [go_sem, Nat.reduceLT, Nat.reduceAdd, Nat.reduceSub, Nat.reduceMul, Nat.reduceEqDiff, Nat.reduceBEq, Nat.reduceLeDiff, Int.reduceToNat, Int.reduceLT, Int.reduceLE, Int.reduceEq, reduceCtorEq, ↓reduceIte, X44_4, k44_4, b62, w64, b66, w96, b98]
      · replace h := br_t b98 h
        obtain ⟨x99, q100, h⟩ := bnd_some h
        obtain ⟨g101, g102, g103⟩ := idx_row (encPpattern .imm) q100
        try simp -implicitDefEqProofs only [go_sem, Nat.reduceLT, Nat.reduceAdd, Nat.reduceSub, Nat.reduceMul, Nat.reduceEqDiff, Nat.reduceBEq, Nat.reduceLeDiff, Int.reduceToNat, Int.reduceLT, Int.reduceLE, Int.reduceEq, reduceCtorEq, ↓reduceIte] at g102
        try simp -implicitDefEqProofs only [go_sem, Nat.reduceLT, Nat.reduceAdd, Nat.reduceSub, Nat.reduceMul, Nat.reduceEqDiff, Nat.reduceBEq, Nat.reduceLeDiff, Int.reduceToNat, Int.reduceLT, Int.reduceLE, Int.reduceEq, reduceCtorEq, ↓reduceIte] at g103
        cases h
        simp -implicitDefEqProofs only [go_sem, Nat.reduceLT, Nat.reduceAdd, Nat.reduceSub, Nat.reduceMul, Nat.reduceEqDiff, Nat.reduceBEq, Nat.reduceLeDiff, Int.reduceToNat, Int.reduceLT, Int.reduceLE, Int.reduceEq, reduceCtorEq, ↓reduceIte, X44_4, k44_4, b62, w64, b66, w96, b98, g101, g102, g103]
    · replace h := br_t b66 h
      obtain ⟨x67, q68, h⟩ := bnd_some h
      obtain ⟨g69, g70, g71⟩ := idx_row (encPpattern .imm) q68
      try simp -implicitDefEqProofs only [go_sem, Nat.reduceLT, Nat.reduceAdd, Nat.reduceSub, Nat.reduceMul, Nat.reduceEqDiff, Nat.reduceBEq, Nat.reduceLeDiff, Int.reduceToNat, Int.reduceLT, Int.reduceLE, Int.reduceEq, reduceCtorEq, ↓reduceIte] at g70
      try simp -implicitDefEqProofs only [go_sem, Nat.reduceLT, Nat.reduceAdd, Nat.reduceSub, Nat.reduceMul, Nat.reduceEqDiff, Nat.reduceBEq, Nat.reduceLeDiff, Int.reduceToNat, Int.reduceLT, Int.reduceLE, Int.reduceEq, reduceCtorEq, ↓reduceIte] at g71
      cases h
      simp -implicitDefEqProofs only [go_sem, Nat.reduceLT, Nat.reduceAdd, Nat.reduceSub, Nat.reduceMul, Nat.reduceEqDiff, Nat.reduceBEq, Nat.reduceLeDiff, Int.reduceToNat, Int.reduceLT, Int.reduceLE, Int.reduceEq, reduceCtorEq, ↓reduceIte, X44_4, k44_4, b62, w64, b66, g69, g70, g71]
noncomputable def X44_2 (a0 : pattern) (p26 : Bool) (p27 : pattern) (o : (Unit ⊕ pattern)) : Ex × Fr × St :=
  match o with
  | .inl o => (.normal, frOf 125 (upd anyF 3 (.ptr 0 0 0)), [some ⟨.box, 1, [[.tp .imm 3 [encpattern .imm p27] 0 0]]⟩])
  | .inr o => (.ret, frOf 125 (upd anyF 2 (.tp .imm 3 [encpattern .imm o] 0 0)), [])
theorem e44_2 (rc : pattern → Option pattern) (hrc : ∀ (a0 : pattern) (r : pattern), rc a0 = some r → evFL T 44 [.tp .imm 3 [encpattern .imm a0] 0 0] [] = some (.tp .imm 3 [encpattern .imm r] 0 0, [])) (a0 : pattern) (p26 : Bool) (p27 : pattern) (o : (Unit ⊕ pattern)) (h : m44_2 rc a0 p26 p27 = some o) : evCL T 0 k44_2 (frOf 125 (upd (upd (upd (upd anyF 3 (.ptr 0 0 0)) 6 (.fn 69 [.ptr 0 0 0])) 39 (.int .i64 a0.cell.kind)) 40 (.bool p26))) [some ⟨.box, 1, [[.tp .imm 3 [encpattern .imm p27] 0 0]]⟩] = some (X44_2 a0 p26 p27 o) := by
  unfold m44_2 at h
  try simp -implicitDefEqProofs only [go_sem, Nat.reduceLT, Nat.reduceAdd, Nat.reduceSub, Nat.reduceMul, Nat.reduceEqDiff, Nat.reduceBEq, Nat.reduceLeDiff, Int.reduceToNat, Int.reduceLT, Int.reduceLE, Int.reduceEq, reduceCtorEq, ↓reduceIte, X44_2, k44_2]
  cases b28 : (p26 : Bool)
  · replace h := br_f b28 h
    try simp -implicitDefEqProofs only [go_sem, Nat.reduceLT, Nat.reduceAdd, Nat.reduceSub, Nat.reduceMul, Nat.reduceEqDiff, Nat.reduceBEq, Nat.reduceLeDiff, Int.reduceToNat, Int.reduceLT, Int.reduceLE, Int.reduceEq, reduceCtorEq, ↓reduceIte, X44_2, k44_2, b28]
    obtain ⟨o, q132, h⟩ := bnd_some h
    rcases o with ⟨⟩ | v134
    · replace h := selS_l h
      have w133 := e44_4 rc hrc a0 (eqI a0.cell.kind 6) p27 (.inl ()) q132
      simp only [X44_4] at w133
      try simp -implicitDefEqProofs only [go_sem, Nat.reduceLT, Nat.reduceAdd, Nat.reduceSub, Nat.reduceMul, Nat.reduceEqDiff, Nat.reduceBEq, Nat.reduceLeDiff, Int.reduceToNat, Int.reduceLT, Int.reduceLE, Int.reduceEq, reduceCtorEq, ↓reduceIte] at w133
      cases h
      simp -implicitDefEqProofs only [go_sem, Nat.reduceLT, Nat.reduceAdd, Nat.reduceSub, Nat.reduceMul, Nat.reduceEqDiff, Nat.reduceBEq, Nat.reduceLeDiff, Int.reduceToNat, Int.reduceLT, Int.reduceLE, Int.reduceEq, reduceCtorEq, ↓reduceIte, X44_2, k44_2, b28, w133]
    · replace h := selS_r h
      have w133 := e44_4 rc hrc a0 (eqI a0.cell.kind 6) p27 (.inr v134) q132
      simp only [X44_4] at w133
      try simp -implicitDefEqProofs only [go_sem, Nat.reduceLT, Nat.reduceAdd, Nat.reduceSub, Nat.reduceMul, Nat.reduceEqDiff, Nat.reduceBEq, Nat.reduceLeDiff, Int.reduceToNat, Int.reduceLT, Int.reduceLE, Int.reduceEq, reduceCtorEq, ↓reduceIte] at w133
      cases h
      simp -implicitDefEqProofs only [go_sem, Nat.reduceLT, Nat.reduceAdd, Nat.reduceSub, Nat.reduceMul, Nat.reduceEqDiff, Nat.reduceBEq, Nat.reduceLeDiff, Int.reduceToNat, Int.reduceLT, Int.reduceLE, Int.reduceEq, reduceCtorEq, ↓reduceIte, X44_2, k44_2, b28, w133]
  · replace h := br_t b28 h
    obtain ⟨v38, q36, h⟩ := bnd_some h
    have w37 := e44_3 rc hrc p27 v38 q36
    simp only [X44_3] at w37
    try simp -implicitDefEqProofs only [go_sem, Nat.reduceLT, Nat.reduceAdd, Nat.reduceSub, Nat.reduceMul, Nat.reduceEqDiff, Nat.reduceBEq, Nat.reduceLeDiff, Int.reduceToNat, Int.reduceLT, Int.reduceLE, Int.reduceEq, reduceCtorEq, ↓reduceIte] at w37
    try simp -implicitDefEqProofs only [go_sem, Nat.reduceLT, Nat.reduceAdd, Nat.reduceSub, Nat.reduceMul, Nat.reduceEqDiff, Nat.reduceBEq, Nat.reduceLeDiff, Int.reduceToNat, Int.reduceLT, Int.reduceLE, Int.reduceEq, reduceCtorEq, ↓reduceIte, X44_2, k44_2, b28, w37]
    cases b39 : (v38 : Bool)
    · replace h := br_f b39 h
      obtain ⟨r45, q43, h⟩ := bnd_some h
      have w44 := e69 0 2 p27 r45 q43
      try simp -implicitDefEqProofs only [go_sem, Nat.reduceLT, Nat.reduceAdd, Nat.reduceSub, Nat.reduceMul, Nat.reduceEqDiff, Nat.reduceBEq, Nat.reduceLeDiff, Int.reduceToNat, Int.reduceLT, Int.reduceLE, Int.reduceEq, reduceCtorEq, ↓reduceIte] at w44
      try simp -implicitDefEqProofs only [go_sem, Nat.reduceLT, Nat.reduceAdd, Nat.reduceSub, Nat.reduceMul, Nat.reduceEqDiff, Nat.reduceBEq, Nat.reduceLeDiff, Int.reduceToNat, Int.reduceLT, Int.reduceLE, Int.reduceEq, reduceCtorEq, ↓reduceIte, X44_2, k44_2, b28, w37, b39, w44]
      cases b46 : (r45 : Bool)
      · replace h := br_f b46 h
        obtain ⟨r54, q52, h⟩ := bnd_some h
        have w53 := e69 1 2 p27 r54 q52
        try simp -implicitDefEqProofs only [go_sem, Nat.reduceLT, Nat.reduceAdd, Nat.reduceSub, Nat.reduceMul, Nat.reduceEqDiff, Nat.reduceBEq, Nat.reduceLeDiff, Int.reduceToNat, Int.reduceLT, Int.reduceLE, Int.reduceEq, reduceCtorEq, ↓reduceIte] at w53
        try simp -implicitDefEqProofs only [go_sem, Nat.reduceLT, Nat.reduceAdd, Nat.reduceSub, Nat.reduceMul, Nat.reduceEqDiff, Nat.reduceBEq, Nat.reduceLeDiff, Int.reduceToNat, Int.reduceLT, Int.reduceLE, Int.reduceEq, reduceCtorEq, ↓reduceIte, X44_2, k44_2, b28, w37, b39, w44, b46, w53]
        cases b55 : (r54 : Bool)
        · replace h := br_f b55 h
          cases h
          simp -implicitDefEqProofs only [go_sem, Nat.reduceLT, Nat.reduceAdd, Nat.reduceSub, Nat.reduceMul, Nat.reduceEqDiff, Nat.reduceBEq, Nat.reduceLeDiff, Int.reduceToNat, Int.reduceLT, Int.reduceLE, Int.reduceEq, reduceCtorEq, ↓reduceIte, X44_2, k44_2, b28, w37, b39, w44, b46, w53, b55]
        · replace h := br_t b55 h
          obtain ⟨x56, q57, h⟩ := bnd_some h
          obtain ⟨g58, g59, g60⟩ := idx_row (encPpattern .imm) q57
          try simp -implicitDefEqProofs only [go_sem, Nat.reduceLT, Nat.reduceAdd, Nat.reduceSub, Nat.reduceMul, Nat.reduceEqDiff, Nat.reduceBEq, Nat.reduceLeDiff, Int.reduceToNat, Int.reduceLT, Int.reduceLE, Int.reduceEq, reduceCtorEq, ↓reduceIte] at g59
          try simp -implicitDefEqProofs only [go_sem, Nat.reduceLT, Nat.reduceAdd, Nat.reduceSub, Nat.reduceMul, Nat.reduceEqDiff, Nat.reduceBEq, Nat.reduceLeDiff, Int.reduceToNat, Int.reduceLT, Int.reduceLE, Int.reduceEq, reduceCtorEq, ↓reduceIte] at g60
          cases h
          simp -implicitDefEqProofs only [go_sem, Nat.reduceLT, Nat.reduceAdd, Nat.reduceSub, Nat.reduceMul, Nat.reduceEqDiff, Nat.reduceBEq, Nat.reduceLeDiff, Int.reduceToNat, Int.reduceLT, Int.reduceLE, Int.reduceEq, reduceCtorEq, ↓reduceIte, X44_2, k44_2, b28, w37, b39, w44, b46, w53, b55, g58, g59, g60]
      · replace h := br_t b46 h
        obtain ⟨x47, q48, h⟩ := bnd_some h
        obtain ⟨g49, g50, g51⟩ := idx_row (encPpattern .imm) q48
        try simp -implicitDefEqProofs only [go_sem, Nat.reduceLT, Nat.reduceAdd, Nat.reduceSub, Nat.reduceMul, Nat.reduceEqDiff, Nat.reduceBEq, Nat.reduceLeDiff, Int.reduceToNat, Int.reduceLT, Int.reduceLE, Int.reduceEq, reduceCtorEq, ↓reduceIte] at g50
        try simp -implicitDefEqProofs only [go_sem, Nat.reduceLT, Nat.reduceAdd, Nat.reduceSub, Nat.reduceMul, Nat.reduceEqDiff, Nat.reduceBEq, Nat.reduceLeDiff, Int.reduceToNat, Int.reduceLT, Int.reduceLE, Int.reduceEq, reduceCtorEq, ↓reduceIte] at g51
        cases h
        simp -implicitDefEqProofs only [go_sem, Nat.reduceLT, Nat.reduceAdd, Nat.reduceSub, Nat.reduceMul, Nat.reduceEqDiff, Nat.reduceBEq, Nat.reduceLeDiff, Int.reduceToNat, Int.reduceLT, Int.reduceLE, Int.reduceEq, reduceCtorEq, ↓reduceIte, X44_2, k44_2, b28, w37, b39, w44, b46, g49, g50, g51]
    · replace h := br_t b39 h
      obtain ⟨r42, q40, h⟩ := bnd_some h
      have w41 := e68 1 [] r42 q40
      try simp -implicitDefEqProofs only [go_sem, Nat.reduceLT, Nat.reduceAdd, Nat.reduceSub, Nat.reduceMul, Nat.reduceEqDiff, Nat.reduceBEq, Nat.reduceLeDiff, Int.reduceToNat, Int.reduceLT, Int.reduceLE, Int.reduceEq, reduceCtorEq, ↓reduceIte] at w41
      cases h
      simp -implicitDefEqProofs only [go_sem, Nat.reduceLT, Nat.reduceAdd, Nat.reduceSub, Nat.reduceMul, Nat.reduceEqDiff, Nat.reduceBEq, Nat.reduceLeDiff, Int.reduceToNat, Int.reduceLT, Int.reduceLE, Int.reduceEq, reduceCtorEq, ↓reduceIte, X44_2, k44_2, b28, w37, b39, w41]
theorem e44r (rc : pattern → Option pattern) (hrc : ∀ (a0 : pattern) (r : pattern), rc a0 = some r → evFL T 44 [.tp .imm 3 [encpattern .imm a0] 0 0] [] = some (.tp .imm 3 [encpattern .imm r] 0 0, [])) (a0 : pattern) (r : pattern) (h : m44r rc a0 = some r) : evFL T 44 [.tp .imm 3 [encpattern .imm a0] 0 0] [] = some (.tp .imm 3 [encpattern .imm r] 0 0, []) := by
  unfold m44r at h
  rw [evFL_at fn44 (Nat.le_of_ble_eq_true rfl) rfl (.inr rfl) ⟨rfl, rfl⟩]
  obtain ⟨v25, q23, h⟩ := bnd_some h
  have w24 := e44_1 rc hrc a0 (↑a0.parts.length : Int) (0, []) v25 q23
  simp only [E44_1, X44_1] at w24
  try simp -implicitDefEqProofs only [go_sem, Nat.reduceLT, Nat.reduceAdd, Nat.reduceSub, Nat.reduceMul, Nat.reduceEqDiff, Nat.reduceBEq, Nat.reduceLeDiff, Int.reduceToNat, Int.reduceLT, Int.reduceLE, Int.reduceEq, reduceCtorEq, ↓reduceIte] at w24
  try simp -implicitDefEqProofs only [go_sem, Nat.reduceLT, Nat.reduceAdd, Nat.reduceSub, Nat.reduceMul, Nat.reduceEqDiff, Nat.reduceBEq, Nat.reduceLeDiff, Int.reduceToNat, Int.reduceLT, Int.reduceLE, Int.reduceEq, reduceCtorEq, ↓reduceIte, i44, c44, w24]
  obtain ⟨o, q135, h⟩ := bnd_some h
  rcases o with ⟨⟩ | v137
  · replace h := selS_l h
    have w136 := e44_2 rc hrc a0 (eqI a0.cell.kind 5) (⟨a0.cell, v25⟩ : pattern) (.inl ()) q135
    simp only [X44_2] at w136
    try simp -implicitDefEqProofs only [go_sem, Nat.reduceLT, Nat.reduceAdd, Nat.reduceSub, Nat.reduceMul, Nat.reduceEqDiff, Nat.reduceBEq, Nat.reduceLeDiff, Int.reduceToNat, Int.reduceLT, Int.reduceLE, Int.reduceEq, reduceCtorEq, ↓reduceIte] at w136
    cases h
    simp -implicitDefEqProofs only [go_sem, Nat.reduceLT, Nat.reduceAdd, Nat.reduceSub, Nat.reduceMul, Nat.reduceEqDiff, Nat.reduceBEq, Nat.reduceLeDiff, Int.reduceToNat, Int.reduceLT, Int.reduceLE, Int.reduceEq, reduceCtorEq, ↓reduceIte, i44, c44, w24, w136]
  · replace h := selS_r h
    have w136 := e44_2 rc hrc a0 (eqI a0.cell.kind 5) (⟨a0.cell, v25⟩ : pattern) (.inr v137) q135
    simp only [X44_2] at w136
    try simp -implicitDefEqProofs only [go_sem, Nat.reduceLT, Nat.reduceAdd, Nat.reduceSub, Nat.reduceMul, Nat.reduceEqDiff, Nat.reduceBEq, Nat.reduceLeDiff, Int.reduceToNat, Int.reduceLT, Int.reduceLE, Int.reduceEq, reduceCtorEq, ↓reduceIte] at w136
    cases h
    simp -implicitDefEqProofs only [go_sem, Nat.reduceLT, Nat.reduceAdd, Nat.reduceSub, Nat.reduceMul, Nat.reduceEqDiff, Nat.reduceBEq, Nat.reduceLeDiff, Int.reduceToNat, Int.reduceLT, Int.reduceLE, Int.reduceEq, reduceCtorEq, ↓reduceIte, i44, c44, w24, w136]
theorem e44k : ∀ (k : Nat) (a0 : pattern) (r : pattern) (h : m44k k a0 = some r), evFL T 44 [.tp .imm 3 [encpattern .imm a0] 0 0] [] = some (.tp .imm 3 [encpattern .imm r] 0 0, []) := by
  intro k
  induction k with
  | zero => intro a0 r h; cases h
  | succ k ih => intro a0 r h; exact e44r (m44k k) (fun a0 r h => ih a0 r h) a0 r h
theorem e44 (a0 : pattern) (r : pattern) (h : m44 a0 = some r) : evFL T 44 [.tp .imm 3 [encpattern .imm a0] 0 0] [] = some (.tp .imm 3 [encpattern .imm r] 0 0, []) := by
  obtain ⟨N, hN⟩ := limO_iff.1 h
  exact e44k N a0 r (hN N (Nat.le_refl N))
-- f34 impl.matches
theorem call34 (args : List AV) (S : St) : evCall T (evFL T) 34 args S = lendC (evFL T 34) S (lendAll S [[2], [1]] args) := evCall0 fn34 rfl rfl rfl args S
theorem callz34 (args : List AV) (S : St) : evCallFz T (evFL T) 34 args S = lendZ (evFL T 34) S [[0]] (lendAll S [[2], [1]] args) := evCallFz0 fn34 rfl rfl rfl args S
attribute [go_sem] call34 callz34
noncomputable def X34_1 (a1 : (List Int)) (p5 : Int) (o : pattern) : Ex × Fr × St :=
  (.exit 0, frOf 27 (upd anyF 5 (.tp .imm 3 [encpattern .imm o] 0 0)), [])
noncomputable def E34_1 (a1 : (List Int)) (p5 : Int) (s : (pattern × Int)) : Fr × St := (frOf 27 (upd (upd (upd (upd anyF 5 (.tp .imm 3 [encpattern .imm s.1] 0 0)) 14 (.ts .imm 1 (a1.map encInt))) 15 (.int .i64 p5)) 16 (.int .i64 s.2)), [])
theorem b34_1 (a1 : (List Int)) (p5 : Int) (s : (pattern × Int)) (o : Ctl (pattern × Int) pattern) (h : m34_1b a1 p5 s = some o) : evCL T 0 k34_1b (E34_1 a1 p5 s).1 (E34_1 a1 p5 s).2 = some (ctlX (E34_1 a1 p5) (X34_1 a1 p5) o) := by
  unfold m34_1b at h
  obtain ⟨s18, s19⟩ := s
  replace h := sel2_some h
  try simp -implicitDefEqProofs only [go_sem, Nat.reduceLT, Nat.reduceAdd, Nat.reduceSub, Nat.reduceMul, Nat.reduceEqDiff, Nat.reduceBEq, Nat.reduceLeDiff, Int.reduceToNat, Int.reduceLT, Int.reduceLE, Int.reduceEq, reduceCtorEq, ↓reduceIte, E34_1, X34_1, k34_1b]
  cases b20 : (ltI s19 p5 : Bool)
  · replace h := br_f b20 h
    cases h
    simp -implicitDefEqProofs only [go_sem, Nat.reduceLT, Nat.reduceAdd, Nat.reduceSub, Nat.reduceMul, Nat.reduceEqDiff, Nat.reduceBEq, Nat.reduceLeDiff, Int.reduceToNat, Int.reduceLT, Int.reduceLE, Int.reduceEq, reduceCtorEq, ↓reduceIte, E34_1, X34_1, k34_1b, b20]
  · replace h := br_t b20 h
    obtain ⟨x21, q22, h⟩ := bnd_some h
    obtain ⟨g23, g24, g25⟩ := idx_row encInt q22
    try simp -implicitDefEqProofs only [go_sem, Nat.reduceLT, Nat.reduceAdd, Nat.reduceSub, Nat.reduceMul, Nat.reduceEqDiff, Nat.reduceBEq, Nat.reduceLeDiff, Int.reduceToNat, Int.reduceLT, Int.reduceLE, Int.reduceEq, reduceCtorEq, ↓reduceIte] at g24
    try simp -implicitDefEqProofs only [go_sem, Nat.reduceLT, Nat.reduceAdd, Nat.reduceSub, Nat.reduceMul, Nat.reduceEqDiff, Nat.reduceBEq, Nat.reduceLeDiff, Int.reduceToNat, Int.reduceLT, Int.reduceLE, Int.reduceEq, reduceCtorEq, ↓reduceIte] at g25
    obtain ⟨r28, q26, h⟩ := bnd_some h
    have w27 := e43 s18 x21 r28 q26
    try simp -implicitDefEqProofs only [go_sem, Nat.reduceLT, Nat.reduceAdd, Nat.reduceSub, Nat.reduceMul, Nat.reduceEqDiff, Nat.reduceBEq, Nat.reduceLeDiff, Int.reduceToNat, Int.reduceLT, Int.reduceLE, Int.reduceEq, reduceCtorEq, ↓reduceIte] at w27
    obtain ⟨r31, q29, h⟩ := bnd_some h
    have w30 := e44 r28 r31 q29
    try simp -implicitDefEqProofs only [go_sem, Nat.reduceLT, Nat.reduceAdd, Nat.reduceSub, Nat.reduceMul, Nat.reduceEqDiff, Nat.reduceBEq, Nat.reduceLeDiff, Int.reduceToNat, Int.reduceLT, Int.reduceLE, Int.reduceEq, reduceCtorEq, ↓reduceIte] at w30
    cases h
    simp -implicitDefEqProofs only [go_sem, Nat.reduceLT, Nat.reduceAdd, Nat.reduceSub, Nat.reduceMul, Nat.reduceEqDiff, Nat.reduceBEq, Nat.reduceLeDiff, Int.reduceToNat, Int.reduceLT, Int.reduceLE, Int.reduceEq, reduceCtorEq, ↓reduceIte, E34_1, X34_1, k34_1b, b20, g23, g24, g25, w27, w30]
theorem e34_1 (a1 : (List Int)) (p5 : Int) (s : (pattern × Int)) (o : pattern) (h : loopP (m34_1b a1 p5) s = some o) : evCL T 0 (.loop k34_1b) (E34_1 a1 p5 s).1 (E34_1 a1 p5 s).2 = some (X34_1 a1 p5 o) :=
  loop_walk (E := E34_1 a1 p5) (X := X34_1 a1 p5) (by intro b; (simp only [X34_1]; nofun)) (b34_1 a1 p5) s o h
theorem e34 (a0 : (List ReCell)) (a1 : (List Int)) (r : Bool) (h : m34 a0 a1 = some r) : evFL T 34 [.ts .imm 2 (a0.map encReCell), .ts .imm 1 (a1.map encInt)] [] = some (.bool r, []) := by
  unfold m34 at h
  rw [evFL_at fn34 (Nat.le_of_ble_eq_true rfl) rfl (.inr rfl) ⟨rfl, rfl⟩]
  obtain ⟨⟨r3, r4⟩, q1, h⟩ := bnd_some h
  replace h := sel2_some h
  have w2 := e42 a0 (r3, r4) q1
  try simp -implicitDefEqProofs only [go_sem, Nat.reduceLT, Nat.reduceAdd, Nat.reduceSub, Nat.reduceMul, Nat.reduceEqDiff, Nat.reduceBEq, Nat.reduceLeDiff, Int.reduceToNat, Int.reduceLT, Int.reduceLE, Int.reduceEq, reduceCtorEq, ↓reduceIte] at w2
  obtain ⟨v34, q32, h⟩ := bnd_some h
  have w33 := e34_1 a1 (↑a1.length : Int) (r3, 0) v34 q32
  simp only [E34_1, X34_1] at w33
  try simp -implicitDefEqProofs only [go_sem, Nat.reduceLT, Nat.reduceAdd, Nat.reduceSub, Nat.reduceMul, Nat.reduceEqDiff, Nat.reduceBEq, Nat.reduceLeDiff, Int.reduceToNat, Int.reduceLT, Int.reduceLE, Int.reduceEq, reduceCtorEq, ↓reduceIte] at w33
  obtain ⟨r37, q35, h⟩ := bnd_some h
  have w36 := e58 v34 r37 q35
  try simp -implicitDefEqProofs only [go_sem, Nat.reduceLT, Nat.reduceAdd, Nat.reduceSub, Nat.reduceMul, Nat.reduceEqDiff, Nat.reduceBEq, Nat.reduceLeDiff, Int.reduceToNat, Int.reduceLT, Int.reduceLE, Int.reduceEq, reduceCtorEq, ↓reduceIte] at w36
  cases h
  simp -implicitDefEqProofs only [go_sem, Nat.reduceLT, Nat.reduceAdd, Nat.reduceSub, Nat.reduceMul, Nat.reduceEqDiff, Nat.reduceBEq, Nat.reduceLeDiff, Int.reduceToNat, Int.reduceLT, Int.reduceLE, Int.reduceEq, reduceCtorEq, ↓reduceIte, i34, c34, w2, w33, w36]
-- f10 impl.MatchPath
theorem call10 (args : List AV) (S : St) : evCall T (evFL T) 10 args S = lendC (evFL T 10) S (lendAll S [[2], [1]] args) := evCall0 fn10 rfl rfl rfl args S
theorem callz10 (args : List AV) (S : St) : evCallFz T (evFL T) 10 args S = lendZ (evFL T 10) S [[0], [0]] (lendAll S [[2], [1]] args) := evCallFz0 fn10 rfl rfl rfl args S
attribute [go_sem] call10 callz10
noncomputable def X10_1 (a0 : (List ReCell)) (a1 : (List Int)) (o : Bool) : Ex × Fr × St :=
  (.normal, frOf 17 (upd (upd (upd anyF 0 (.ts .imm 2 (a0.map encReCell))) 1 (.ts .imm 1 (a1.map encInt))) 13 (.bool o)), [])
theorem e10_1 (a0 : (List ReCell)) (a1 : (List Int)) (o : Bool) (h : m10_1 a0 a1 = some o) : evCL T 0 k10_1 (frOf 17 (upd (upd anyF 0 (.ts .imm 2 (a0.map encReCell))) 1 (.ts .imm 1 (a1.map encInt)))) [] = some (X10_1 a0 a1 o) := by
  unfold m10_1 at h
  obtain ⟨r3, q1, h⟩ := bnd_some h
  have w2 := e21 a0 r3 q1
  try simp -implicitDefEqProofs only [go_sem, Nat.reduceLT, Nat.reduceAdd, Nat.reduceSub, Nat.reduceMul, Nat.reduceEqDiff, Nat.reduceBEq, Nat.reduceLeDiff, Int.reduceToNat, Int.reduceLT, Int.reduceLE, Int.reduceEq, reduceCtorEq, ↓reduceIte] at w2
  try simp -implicitDefEqProofs only [go_sem, Nat.reduceLT, Nat.reduceAdd, Nat.reduceSub, Nat.reduceMul, Nat.reduceEqDiff, Nat.reduceBEq, Nat.reduceLeDiff, Int.reduceToNat, Int.reduceLT, Int.reduceLE, Int.reduceEq, reduceCtorEq, ↓reduceIte, X10_1, k10_1, w2]
  cases b4 : (r3 : Bool)
  · replace h := br_f b4 h
    cases h
    simp -implicitDefEqProofs only [go_sem, Nat.reduceLT, Nat.reduceAdd, Nat.reduceSub, Nat.reduceMul, Nat.reduceEqDiff, Nat.reduceBEq, Nat.reduceLeDiff, Int.reduceToNat, Int.reduceLT, Int.reduceLE, Int.reduceEq, reduceCtorEq, ↓reduceIte, X10_1, k10_1, w2, b4]
  · replace h := br_t b4 h
    obtain ⟨r7, q5, h⟩ := bnd_some h
    have w6 := e33 a1 r7 q5
    try simp -implicitDefEqProofs only [go_sem, Nat.reduceLT, Nat.reduceAdd, Nat.reduceSub, Nat.reduceMul, Nat.reduceEqDiff, Nat.reduceBEq, Nat.reduceLeDiff, Int.reduceToNat, Int.reduceLT, Int.reduceLE, Int.reduceEq, reduceCtorEq, ↓reduceIte] at w6
    cases h
    simp -implicitDefEqProofs only [go_sem, Nat.reduceLT, Nat.reduceAdd, Nat.reduceSub, Nat.reduceMul, Nat.reduceEqDiff, Nat.reduceBEq, Nat.reduceLeDiff, Int.reduceToNat, Int.reduceLT, Int.reduceLE, Int.reduceEq, reduceCtorEq, ↓reduceIte, X10_1, k10_1, w2, b4, w6]
theorem e10 (a0 : (List ReCell)) (a1 : (List Int)) (r : (Bool × Bool)) (h : m10 a0 a1 = some r) : evFL T 10 [.ts .imm 2 (a0.map encReCell), .ts .imm 1 (a1.map encInt)] [] = some (.tup [.bool r.1, .bool r.2], []) := by
  unfold m10 at h
  rw [evFL_at fn10 (Nat.le_of_ble_eq_true rfl) rfl (.inr rfl) ⟨rfl, rfl⟩]
  obtain ⟨v10, q8, h⟩ := bnd_some h
  have w9 := e10_1 a0 a1 v10 q8
  simp only [X10_1] at w9
  try simp -implicitDefEqProofs only [go_sem, Nat.reduceLT, Nat.reduceAdd, Nat.reduceSub, Nat.reduceMul, Nat.reduceEqDiff, Nat.reduceBEq, Nat.reduceLeDiff, Int.reduceToNat, Int.reduceLT, Int.reduceLE, Int.reduceEq, reduceCtorEq, ↓reduceIte] at w9
  try simp -implicitDefEqProofs only [go_sem, Nat.reduceLT, Nat.reduceAdd, Nat.reduceSub, Nat.reduceMul, Nat.reduceEqDiff, Nat.reduceBEq, Nat.reduceLeDiff, Int.reduceToNat, Int.reduceLT, Int.reduceLE, Int.reduceEq, reduceCtorEq, ↓reduceIte, i10, c10, w9]
  cases b11 : (v10 : Bool)
  · replace h := br_f b11 h
    obtain ⟨r14, q12, h⟩ := bnd_some h
    have w13 := e34 a0 a1 r14 q12
    try simp -implicitDefEqProofs only [go_sem, Nat.reduceLT, Nat.reduceAdd, Nat.reduceSub, Nat.reduceMul, Nat.reduceEqDiff, Nat.reduceBEq, Nat.reduceLeDiff, Int.reduceToNat, Int.reduceLT, Int.reduceLE, Int.reduceEq, reduceCtorEq, ↓reduceIte] at w13
    cases h
    simp -implicitDefEqProofs only [go_sem, Nat.reduceLT, Nat.reduceAdd, Nat.reduceSub, Nat.reduceMul, Nat.reduceEqDiff, Nat.reduceBEq, Nat.reduceLeDiff, Int.reduceToNat, Int.reduceLT, Int.reduceLE, Int.reduceEq, reduceCtorEq, ↓reduceIte, i10, c10, w9, b11, w13]
  · replace h := br_t b11 h
    cases h
    simp -implicitDefEqProofs only [go_sem, Nat.reduceLT, Nat.reduceAdd, Nat.reduceSub, Nat.reduceMul, Nat.reduceEqDiff, Nat.reduceBEq, Nat.reduceLeDiff, Int.reduceToNat, Int.reduceLT, Int.reduceLE, Int.reduceEq, reduceCtorEq, ↓reduceIte, i10, c10, w9, b11]
-- f35 laws.eqReCell
theorem call35 (args : List AV) (S : St) : evCall T (evFL T) 35 args S = lendC (evFL T 35) S (lendAll S [[0, 0], [0, 0]] args) := evCall0 fn35 rfl rfl rfl args S
theorem callz35 (args : List AV) (S : St) : evCallFz T (evFL T) 35 args S = lendZ (evFL T 35) S [[0]] (lendAll S [[0, 0], [0, 0]] args) := evCallFz0 fn35 rfl rfl rfl args S
attribute [go_sem] call35 callz35
theorem e35 (a0 : ReCell) (a1 : ReCell) (r : Bool) (h : m35 a0 a1 = some r) : evFL T 35 [.agg [.int .i64 a0.kind, .int .i64 a0.n], .agg [.int .i64 a1.kind, .int .i64 a1.n]] [] = some (.bool r, []) := by
  unfold m35 at h
  rw [evFL_at fn35 (Nat.le_of_ble_eq_true rfl) rfl (.inr rfl) ⟨rfl, rfl⟩]
  try simp -implicitDefEqProofs only [go_sem, Nat.reduceLT, Nat.reduceAdd, Nat.reduceSub, Nat.reduceMul, Nat.reduceEqDiff, Nat.reduceBEq, Nat.reduceLeDiff, Int.reduceToNat, Int.reduceLT, Int.reduceLE, Int.reduceEq, reduceCtorEq, ↓reduceIte, i35, c35]
  cases b1 : (eqI a0.kind a1.kind : Bool)
  · replace h := br_f b1 h
    cases h
    simp -implicitDefEqProofs only [go_sem, Nat.reduceLT, Nat.reduceAdd, Nat.reduceSub, Nat.reduceMul, Nat.reduceEqDiff, Nat.reduceBEq, Nat.reduceLeDiff, Int.reduceToNat, Int.reduceLT, Int.reduceLE, Int.reduceEq, reduceCtorEq, ↓reduceIte, i35, c35, b1]
  · replace h := br_t b1 h
    try simp -implicitDefEqProofs only [go_sem, Nat.reduceLT, Nat.reduceAdd, Nat.reduceSub, Nat.reduceMul, Nat.reduceEqDiff, Nat.reduceBEq, Nat.reduceLeDiff, Int.reduceToNat, Int.reduceLT, Int.reduceLE, Int.reduceEq, reduceCtorEq, ↓reduceIte, i35, c35, b1]
    cases b2 : (eqI a0.n a1.n : Bool)
    · replace h := br_f b2 h
      cases h
      simp -implicitDefEqProofs only [go_sem, Nat.reduceLT, Nat.reduceAdd, Nat.reduceSub, Nat.reduceMul, Nat.reduceEqDiff, Nat.reduceBEq, Nat.reduceLeDiff, Int.reduceToNat, Int.reduceLT, Int.reduceLE, Int.reduceEq, reduceCtorEq, ↓reduceIte, i35, c35, b1, b2]
    · replace h := br_t b2 h
      cases h
      simp -implicitDefEqProofs only [go_sem, Nat.reduceLT, Nat.reduceAdd, Nat.reduceSub, Nat.reduceMul, Nat.reduceEqDiff, Nat.reduceBEq, Nat.reduceLeDiff, Int.reduceToNat, Int.reduceLT, Int.reduceLE, Int.reduceEq, reduceCtorEq, ↓reduceIte, i35, c35, b1, b2]
-- f11 laws.eqReCellS
theorem call11 (args : List AV) (S : St) : evCall T (evFL T) 11 args S = lendC (evFL T 11) S (lendAll S [[2], [2]] args) := evCall0 fn11 rfl rfl rfl args S
theorem callz11 (args : List AV) (S : St) : evCallFz T (evFL T) 11 args S = lendZ (evFL T 11) S [[0]] (lendAll S [[2], [2]] args) := evCallFz0 fn11 rfl rfl rfl args S
attribute [go_sem] call11 callz11
noncomputable def X11_1 (a0 : (List ReCell)) (a1 : (List ReCell)) (o : (Unit ⊕ Unit)) : Ex × Fr × St :=
  match o with
  | .inl o => (.exit 0, frOf 27 (anyF), [])
  | .inr o => (.ret, frOf 27 (upd anyF 4 (.bool false)), [])
noncomputable def E11_1 (a0 : (List ReCell)) (a1 : (List ReCell)) (s : Int) : Fr × St := (frOf 27 (upd (upd (upd anyF 0 (.ts .imm 2 (a0.map encReCell))) 1 (.ts .imm 2 (a1.map encReCell))) 5 (.int .i64 s)), [])
theorem b11_1 (a0 : (List ReCell)) (a1 : (List ReCell)) (s : Int) (o : Ctl Int (Unit ⊕ Unit)) (h : m11_1b a0 a1 s = some o) : evCL T 0 k11_1b (E11_1 a0 a1 s).1 (E11_1 a0 a1 s).2 = some (ctlX (E11_1 a0 a1) (X11_1 a0 a1) o) := by
  unfold m11_1b at h
  revert h
  generalize s = s17
  intro h
  try simp -implicitDefEqProofs only [go_sem, Nat.reduceLT, Nat.reduceAdd, Nat.reduceSub, Nat.reduceMul, Nat.reduceEqDiff, Nat.reduceBEq, Nat.reduceLeDiff, Int.reduceToNat, Int.reduceLT, Int.reduceLE, Int.reduceEq, reduceCtorEq, ↓reduceIte, E11_1, X11_1, k11_1b]
  cases b18 : (ltI s17 (↑a0.length : Int) : Bool)
  · replace h := br_f b18 h
    cases h
    simp -implicitDefEqProofs only [go_sem, Nat.reduceLT, Nat.reduceAdd, Nat.reduceSub, Nat.reduceMul, Nat.reduceEqDiff, Nat.reduceBEq, Nat.reduceLeDiff, Int.reduceToNat, Int.reduceLT, Int.reduceLE, Int.reduceEq, reduceCtorEq, ↓reduceIte, E11_1, X11_1, k11_1b, b18]
  · replace h := br_t b18 h
    obtain ⟨x19, q20, h⟩ := bnd_some h
    obtain ⟨g21, g22, g23⟩ := idx_row encReCell q20
    try simp -implicitDefEqProofs only [go_sem, Nat.reduceLT, Nat.reduceAdd, Nat.reduceSub, Nat.reduceMul, Nat.reduceEqDiff, Nat.reduceBEq, Nat.reduceLeDiff, Int.reduceToNat, Int.reduceLT, Int.reduceLE, Int.reduceEq, reduceCtorEq, ↓reduceIte] at g22
    try simp -implicitDefEqProofs only [go_sem, Nat.reduceLT, Nat.reduceAdd, Nat.reduceSub, Nat.reduceMul, Nat.reduceEqDiff, Nat.reduceBEq, Nat.reduceLeDiff, Int.reduceToNat, Int.reduceLT, Int.reduceLE, Int.reduceEq, reduceCtorEq, ↓reduceIte] at g23
    obtain ⟨x24, q25, h⟩ := bnd_some h
    obtain ⟨g26, g27, g28⟩ := idx_row encReCell q25
    try simp -implicitDefEqProofs only [go_sem, Nat.reduceLT, Nat.reduceAdd, Nat.reduceSub, Nat.reduceMul, Nat.reduceEqDiff, Nat.reduceBEq, Nat.reduceLeDiff, Int.reduceToNat, Int.reduceLT, Int.reduceLE, Int.reduceEq, reduceCtorEq, ↓reduceIte] at g27
    try simp -implicitDefEqProofs only [go_sem, Nat.reduceLT, Nat.reduceAdd, Nat.reduceSub, Nat.reduceMul, Nat.reduceEqDiff, Nat.reduceBEq, Nat.reduceLeDiff, Int.reduceToNat, Int.reduceLT, Int.reduceLE, Int.reduceEq, reduceCtorEq, ↓reduceIte] at g28
    obtain ⟨r31, q29, h⟩ := bnd_some h
    have w30 := e35 x19 x24 r31 q29
    try simp -implicitDefEqProofs only [go_sem, Nat.reduceLT, Nat.reduceAdd, Nat.reduceSub, Nat.reduceMul, Nat.reduceEqDiff, Nat.reduceBEq, Nat.reduceLeDiff, Int.reduceToNat, Int.reduceLT, Int.reduceLE, Int.reduceEq, reduceCtorEq, ↓reduceIte] at w30
    try simp -implicitDefEqProofs only [go_sem, Nat.reduceLT, Nat.reduceAdd, Nat.reduceSub, Nat.reduceMul, Nat.reduceEqDiff, Nat.reduceBEq, Nat.reduceLeDiff, Int.reduceToNat, Int.reduceLT, Int.reduceLE, Int.reduceEq, reduceCtorEq, ↓reduceIte, E11_1, X11_1, k11_1b, b18, g21, g22, g23, g26, g27, g28, w30]
    cases b32 : (r31 : Bool)
    · replace h := br_f b32 h
      cases h
      simp -implicitDefEqProofs only [go_sem, Nat.reduceLT, Nat.reduceAdd, Nat.reduceSub, Nat.reduceMul, Nat.reduceEqDiff, Nat.reduceBEq, Nat.reduceLeDiff, Int.reduceToNat, Int.reduceLT, Int.reduceLE, Int.reduceEq, reduceCtorEq, ↓reduceIte, E11_1, X11_1, k11_1b, b18, g21, g22, g23, g26, g27, g28, w30, b32]
    · replace h := br_t b32 h
      cases h
      simp -implicitDefEqProofs only [go_sem, Nat.reduceLT, Nat.reduceAdd, Nat.reduceSub, Nat.reduceMul, Nat.reduceEqDiff, Nat.reduceBEq, Nat.reduceLeDiff, Int.reduceToNat, Int.reduceLT, Int.reduceLE, Int.reduceEq, reduceCtorEq, ↓reduceIte, E11_1, X11_1, k11_1b, b18, g21, g22, g23, g26, g27, g28, w30, b32]
theorem e11_1 (a0 : (List ReCell)) (a1 : (List ReCell)) (s : Int) (o : (Unit ⊕ Unit)) (h : loopP (m11_1b a0 a1) s = some o) : evCL T 0 (.loop k11_1b) (E11_1 a0 a1 s).1 (E11_1 a0 a1 s).2 = some (X11_1 a0 a1 o) :=
  loop_walk (E := E11_1 a0 a1) (X := X11_1 a0 a1) (by intro b; rcases b with b | b <;> (simp only [X11_1]; nofun)) (b11_1 a0 a1) s o h
theorem e11 (a0 : (List ReCell)) (a1 : (List ReCell)) (r : Bool) (h : m11 a0 a1 = some r) : evFL T 11 [.ts .imm 2 (a0.map encReCell), .ts .imm 2 (a1.map encReCell)] [] = some (.bool r, []) := by
  unfold m11 at h
  rw [evFL_at fn11 (Nat.le_of_ble_eq_true rfl) rfl (.inr rfl) ⟨rfl, rfl⟩]
  try simp -implicitDefEqProofs only [go_sem, Nat.reduceLT, Nat.reduceAdd, Nat.reduceSub, Nat.reduceMul, Nat.reduceEqDiff, Nat.reduceBEq, Nat.reduceLeDiff, Int.reduceToNat, Int.reduceLT, Int.reduceLE, Int.reduceEq, reduceCtorEq, ↓reduceIte, i11, c11]
  cases b1 : (eqI (↑a0.length : Int) (↑a1.length : Int) : Bool)
  · replace h := br_f b1 h
    cases h
    simp -implicitDefEqProofs only [go_sem, Nat.reduceLT, Nat.reduceAdd, Nat.reduceSub, Nat.reduceMul, Nat.reduceEqDiff, Nat.reduceBEq, Nat.reduceLeDiff, Int.reduceToNat, Int.reduceLT, Int.reduceLE, Int.reduceEq, reduceCtorEq, ↓reduceIte, i11, c11, b1]
  · replace h := br_t b1 h
    try simp -implicitDefEqProofs only [go_sem, Nat.reduceLT, Nat.reduceAdd, Nat.reduceSub, Nat.reduceMul, Nat.reduceEqDiff, Nat.reduceBEq, Nat.reduceLeDiff, Int.reduceToNat, Int.reduceLT, Int.reduceLE, Int.reduceEq, reduceCtorEq, ↓reduceIte, i11, c11, b1]
    obtain ⟨o, q33, h⟩ := bnd_some h
    rcases o with ⟨⟩ | ⟨⟩
    · replace h := selS_l h
      have w34 := e11_1 a0 a1 0 (.inl ()) q33
      simp only [E11_1, X11_1] at w34
      try simp -implicitDefEqProofs only [go_sem, Nat.reduceLT, Nat.reduceAdd, Nat.reduceSub, Nat.reduceMul, Nat.reduceEqDiff, Nat.reduceBEq, Nat.reduceLeDiff, Int.reduceToNat, Int.reduceLT, Int.reduceLE, Int.reduceEq, reduceCtorEq, ↓reduceIte] at w34
      cases h
      simp -implicitDefEqProofs only [go_sem, Nat.reduceLT, Nat.reduceAdd, Nat.reduceSub, Nat.reduceMul, Nat.reduceEqDiff, Nat.reduceBEq, Nat.reduceLeDiff, Int.reduceToNat, Int.reduceLT, Int.reduceLE, Int.reduceEq, reduceCtorEq, ↓reduceIte, i11, c11, b1, w34]
    · replace h := selS_r h
      have w34 := e11_1 a0 a1 0 (.inr ()) q33
      simp only [E11_1, X11_1] at w34
      try simp -implicitDefEqProofs only [go_sem, Nat.reduceLT, Nat.reduceAdd, Nat.reduceSub, Nat.reduceMul, Nat.reduceEqDiff, Nat.reduceBEq, Nat.reduceLeDiff, Int.reduceToNat, Int.reduceLT, Int.reduceLE, Int.reduceEq, reduceCtorEq, ↓reduceIte] at w34
      cases h
      simp -implicitDefEqProofs only [go_sem, Nat.reduceLT, Nat.reduceAdd, Nat.reduceSub, Nat.reduceMul, Nat.reduceEqDiff, Nat.reduceBEq, Nat.reduceLeDiff, Int.reduceToNat, Int.reduceLT, Int.reduceLE, Int.reduceEq, reduceCtorEq, ↓reduceIte, i11, c11, b1, w34]
-- f12 laws.eqIntS
theorem call12 (args : List AV) (S : St) : evCall T (evFL T) 12 args S = lendC (evFL T 12) S (lendAll S [[1], [1]] args) := evCall0 fn12 rfl rfl rfl args S
theorem callz12 (args : List AV) (S : St) : evCallFz T (evFL T) 12 args S = lendZ (evFL T 12) S [[0]] (lendAll S [[1], [1]] args) := evCallFz0 fn12 rfl rfl rfl args S
attribute [go_sem] call12 callz12
noncomputable def X12_1 (a0 : (List Int)) (a1 : (List Int)) (o : (Unit ⊕ Unit)) : Ex × Fr × St :=
  match o with
  | .inl o => (.exit 0, frOf 26 (anyF), [])
  | .inr o => (.ret, frOf 26 (upd anyF 4 (.bool false)), [])
noncomputable def E12_1 (a0 : (List Int)) (a1 : (List Int)) (s : Int) : Fr × St := (frOf 26 (upd (upd (upd anyF 0 (.ts .imm 1 (a0.map encInt))) 1 (.ts .imm 1 (a1.map encInt))) 5 (.int .i64 s)), [])
theorem b12_1 (a0 : (List Int)) (a1 : (List Int)) (s : Int) (o : Ctl Int (Unit ⊕ Unit)) (h : m12_1b a0 a1 s = some o) : evCL T 0 k12_1b (E12_1 a0 a1 s).1 (E12_1 a0 a1 s).2 = some (ctlX (E12_1 a0 a1) (X12_1 a0 a1) o) := by
  unfold m12_1b at h
  revert h
  generalize s = s14
  intro h
  try simp -implicitDefEqProofs only [go_sem, Nat.reduceLT, Nat.reduceAdd, Nat.reduceSub, Nat.reduceMul, Nat.reduceEqDiff, Nat.reduceBEq, Nat.reduceLeDiff, Int.reduceToNat, Int.reduceLT, Int.reduceLE, Int.reduceEq, reduceCtorEq, ↓reduceIte, E12_1, X12_1, k12_1b]
  cases b15 : (ltI s14 (↑a0.length : Int) : Bool)
  · replace h := br_f b15 h
    cases h
    simp -implicitDefEqProofs only [go_sem, Nat.reduceLT, Nat.reduceAdd, Nat.reduceSub, Nat.reduceMul, Nat.reduceEqDiff, Nat.reduceBEq, Nat.reduceLeDiff, Int.reduceToNat, Int.reduceLT, Int.reduceLE, Int.reduceEq, reduceCtorEq, ↓reduceIte, E12_1, X12_1, k12_1b, b15]
  · replace h := br_t b15 h
    obtain ⟨x16, q17, h⟩ := bnd_some h
    obtain ⟨g18, g19, g20⟩ := idx_row encInt q17
    try simp -implicitDefEqProofs only [go_sem, Nat.reduceLT, Nat.reduceAdd, Nat.reduceSub, Nat.reduceMul, Nat.reduceEqDiff, Nat.reduceBEq, Nat.reduceLeDiff, Int.reduceToNat, Int.reduceLT, Int.reduceLE, Int.reduceEq, reduceCtorEq, ↓reduceIte] at g19
    try simp -implicitDefEqProofs only [go_sem, Nat.reduceLT, Nat.reduceAdd, Nat.reduceSub, Nat.reduceMul, Nat.reduceEqDiff, Nat.reduceBEq, Nat.reduceLeDiff, Int.reduceToNat, Int.reduceLT, Int.reduceLE, Int.reduceEq, reduceCtorEq, ↓reduceIte] at g20
    obtain ⟨x21, q22, h⟩ := bnd_some h
    obtain ⟨g23, g24, g25⟩ := idx_row encInt q22
    try simp -implicitDefEqProofs only [go_sem, Nat.reduceLT, Nat.reduceAdd, Nat.reduceSub, Nat.reduceMul, Nat.reduceEqDiff, Nat.reduceBEq, Nat.reduceLeDiff, Int.reduceToNat, Int.reduceLT, Int.reduceLE, Int.reduceEq, reduceCtorEq, ↓reduceIte] at g24
    try simp -implicitDefEqProofs only [go_sem, Nat.reduceLT, Nat.reduceAdd, Nat.reduceSub, Nat.reduceMul, Nat.reduceEqDiff, Nat.reduceBEq, Nat.reduceLeDiff, Int.reduceToNat, Int.reduceLT, Int.reduceLE, Int.reduceEq, reduceCtorEq, ↓reduceIte] at g25
    try simp -implicitDefEqProofs only [go_sem, Nat.reduceLT, Nat.reduceAdd, Nat.reduceSub, Nat.reduceMul, Nat.reduceEqDiff, Nat.reduceBEq, Nat.reduceLeDiff, Int.reduceToNat, Int.reduceLT, Int.reduceLE, Int.reduceEq, reduceCtorEq, ↓reduceIte, E12_1, X12_1, k12_1b, b15, g18, g19, g20, g23, g24, g25]
    cases b26 : (eqI x16 x21 : Bool)
    · replace h := br_f b26 h
      cases h
      simp -implicitDefEqProofs only [go_sem, Nat.reduceLT, Nat.reduceAdd, Nat.reduceSub, Nat.reduceMul, Nat.reduceEqDiff, Nat.reduceBEq, Nat.reduceLeDiff, Int.reduceToNat, Int.reduceLT, Int.reduceLE, Int.reduceEq, reduceCtorEq, ↓reduceIte, E12_1, X12_1, k12_1b, b15, g18, g19, g20, g23, g24, g25, b26]
    · replace h := br_t b26 h
      cases h
      simp -implicitDefEqProofs only [go_sem, Nat.reduceLT, Nat.reduceAdd, Nat.reduceSub, Nat.reduceMul, Nat.reduceEqDiff, Nat.reduceBEq, Nat.reduceLeDiff, Int.reduceToNat, Int.reduceLT, Int.reduceLE, Int.reduceEq, reduceCtorEq, ↓reduceIte, E12_1, X12_1, k12_1b, b15, g18, g19, g20, g23, g24, g25, b26]
theorem e12_1 (a0 : (List Int)) (a1 : (List Int)) (s : Int) (o : (Unit ⊕ Unit)) (h : loopP (m12_1b a0 a1) s = some o) : evCL T 0 (.loop k12_1b) (E12_1 a0 a1 s).1 (E12_1 a0 a1 s).2 = some (X12_1 a0 a1 o) :=
  loop_walk (E := E12_1 a0 a1) (X := X12_1 a0 a1) (by intro b; rcases b with b | b <;> (simp only [X12_1]; nofun)) (b12_1 a0 a1) s o h
theorem e12 (a0 : (List Int)) (a1 : (List Int)) (r : Bool) (h : m12 a0 a1 = some r) : evFL T 12 [.ts .imm 1 (a0.map encInt), .ts .imm 1 (a1.map encInt)] [] = some (.bool r, []) := by
  unfold m12 at h
  rw [evFL_at fn12 (Nat.le_of_ble_eq_true rfl) rfl (.inr rfl) ⟨rfl, rfl⟩]
  try simp -implicitDefEqProofs only [go_sem, Nat.reduceLT, Nat.reduceAdd, Nat.reduceSub, Nat.reduceMul, Nat.reduceEqDiff, Nat.reduceBEq, Nat.reduceLeDiff, Int.reduceToNat, Int.reduceLT, Int.reduceLE, Int.reduceEq, reduceCtorEq, ↓reduceIte, i12, c12]
  cases b1 : (eqI (↑a0.length : Int) (↑a1.length : Int) : Bool)
  · replace h := br_f b1 h
    cases h
    simp -implicitDefEqProofs only [go_sem, Nat.reduceLT, Nat.reduceAdd, Nat.reduceSub, Nat.reduceMul, Nat.reduceEqDiff, Nat.reduceBEq, Nat.reduceLeDiff, Int.reduceToNat, Int.reduceLT, Int.reduceLE, Int.reduceEq, reduceCtorEq, ↓reduceIte, i12, c12, b1]
  · replace h := br_t b1 h
    try simp -implicitDefEqProofs only [go_sem, Nat.reduceLT, Nat.reduceAdd, Nat.reduceSub, Nat.reduceMul, Nat.reduceEqDiff, Nat.reduceBEq, Nat.reduceLeDiff, Int.reduceToNat, Int.reduceLT, Int.reduceLE, Int.reduceEq, reduceCtorEq, ↓reduceIte, i12, c12, b1]
    obtain ⟨o, q27, h⟩ := bnd_some h
    rcases o with ⟨⟩ | ⟨⟩
    · replace h := selS_l h
      have w28 := e12_1 a0 a1 0 (.inl ()) q27
      simp only [E12_1, X12_1] at w28
      try simp -implicitDefEqProofs only [go_sem, Nat.reduceLT, Nat.reduceAdd, Nat.reduceSub, Nat.reduceMul, Nat.reduceEqDiff, Nat.reduceBEq, Nat.reduceLeDiff, Int.reduceToNat, Int.reduceLT, Int.reduceLE, Int.reduceEq, reduceCtorEq, ↓reduceIte] at w28
      cases h
      simp -implicitDefEqProofs only [go_sem, Nat.reduceLT, Nat.reduceAdd, Nat.reduceSub, Nat.reduceMul, Nat.reduceEqDiff, Nat.reduceBEq, Nat.reduceLeDiff, Int.reduceToNat, Int.reduceLT, Int.reduceLE, Int.reduceEq, reduceCtorEq, ↓reduceIte, i12, c12, b1, w28]
    · replace h := selS_r h
      have w28 := e12_1 a0 a1 0 (.inr ()) q27
      simp only [E12_1, X12_1] at w28
      try simp -implicitDefEqProofs only [go_sem, Nat.reduceLT, Nat.reduceAdd, Nat.reduceSub, Nat.reduceMul, Nat.reduceEqDiff, Nat.reduceBEq, Nat.reduceLeDiff, Int.reduceToNat, Int.reduceLT, Int.reduceLE, Int.reduceEq, reduceCtorEq, ↓reduceIte] at w28
      cases h
      simp -implicitDefEqProofs only [go_sem, Nat.reduceLT, Nat.reduceAdd, Nat.reduceSub, Nat.reduceMul, Nat.reduceEqDiff, Nat.reduceBEq, Nat.reduceLeDiff, Int.reduceToNat, Int.reduceLT, Int.reduceLE, Int.reduceEq, reduceCtorEq, ↓reduceIte, i12, c12, b1, w28]
-- f3 laws.FnExactMatchPath
theorem call3 (args : List AV) (S : St) : evCall T (evFL T) 3 args S = lendC (evFL T 3) S (lendAll S [[2], [1]] args) := evCall0 fn3 rfl rfl rfl args S
theorem callz3 (args : List AV) (S : St) : evCallFz T (evFL T) 3 args S = lendZ (evFL T 3) S [[0]] (lendAll S [[2], [1]] args) := evCallFz0 fn3 rfl rfl rfl args S
attribute [go_sem] call3 callz3
noncomputable def X3_1 (a0 : (List ReCell)) (a1 : (List Int)) (r14 : Bool) (r15 : Bool) (r22 : Bool) (r23 : Bool) (r8 : (List ReCell)) (r11 : (List Int)) (o : Bool) : Ex × Fr × St :=
  (.normal, frOf 56 (upd (upd (upd (upd (upd anyF 0 (.ts .imm 2 (a0.map encReCell))) 1 (.ts .imm 1 (a1.map encInt))) 8 (.sl 0 0 r8.length)) 9 (.sl 1 0 r11.length)) 45 (.bool o)), [some ⟨.arr, 2, r8.map encReCell⟩, some ⟨.arr, 1, r11.map encInt⟩])
theorem e3_1 (a0 : (List ReCell)) (a1 : (List Int)) (r14 : Bool) (r15 : Bool) (r22 : Bool) (r23 : Bool) (r8 : (List ReCell)) (r11 : (List Int)) (o : Bool) (h : m3_1 r14 r15 r22 r23 = some o) : evCL T 0 k3_1 (frOf 56 (upd (upd (upd (upd (upd (upd (upd (upd anyF 0 (.ts .imm 2 (a0.map encReCell))) 1 (.ts .imm 1 (a1.map encInt))) 6 (.bool r14)) 7 (.bool r15)) 8 (.sl 0 0 r8.length)) 9 (.sl 1 0 r11.length)) 10 (.bool r22)) 11 (.bool r23))) [some ⟨.arr, 2, r8.map encReCell⟩, some ⟨.arr, 1, r11.map encInt⟩] = some (X3_1 a0 a1 r14 r15 r22 r23 r8 r11 o) := by
  unfold m3_1 at h
  try simp -implicitDefEqProofs only [go_sem, Nat.reduceLT, Nat.reduceAdd, Nat.reduceSub, Nat.reduceMul, Nat.reduceEqDiff, Nat.reduceBEq, Nat.reduceLeDiff, Int.reduceToNat, Int.reduceLT, Int.reduceLE, Int.reduceEq, reduceCtorEq, ↓reduceIte, X3_1, k3_1]
  cases b24 : (eqB r22 r14 : Bool)
  · replace h := br_f b24 h
    cases h
    simp -implicitDefEqProofs only [go_sem, Nat.reduceLT, Nat.reduceAdd, Nat.reduceSub, Nat.reduceMul, Nat.reduceEqDiff, Nat.reduceBEq, Nat.reduceLeDiff, Int.reduceToNat, Int.reduceLT, Int.reduceLE, Int.reduceEq, reduceCtorEq, ↓reduceIte, X3_1, k3_1, b24]
  · replace h := br_t b24 h
    cases h
    simp -implicitDefEqProofs only [go_sem, Nat.reduceLT, Nat.reduceAdd, Nat.reduceSub, Nat.reduceMul, Nat.reduceEqDiff, Nat.reduceBEq, Nat.reduceLeDiff, Int.reduceToNat, Int.reduceLT, Int.reduceLE, Int.reduceEq, reduceCtorEq, ↓reduceIte, X3_1, k3_1, b24]
theorem e3 (a0 : (List ReCell)) (a1 : (List Int)) (r : Bool) (h : m3 a0 a1 = some r) : evFL T 3 [.ts .imm 2 (a0.map encReCell), .ts .imm 1 (a1.map encInt)] [] = some (.bool r, []) := by
  unfold m3 at h
  rw [evFL_at fn3 (Nat.le_of_ble_eq_true rfl) rfl (.inr rfl) ⟨rfl, rfl⟩]
  try simp -implicitDefEqProofs only [go_sem, Nat.reduceLT, Nat.reduceAdd, Nat.reduceSub, Nat.reduceMul, Nat.reduceEqDiff, Nat.reduceBEq, Nat.reduceLeDiff, Int.reduceToNat, Int.reduceLT, Int.reduceLE, Int.reduceEq, reduceCtorEq, ↓reduceIte, i3, c3]
  cases b1 : (ltI 1048576 (↑a1.length : Int) : Bool)
  · replace h := br_f b1 h
    obtain ⟨r4, q2, h⟩ := bnd_some h
    have w3 := e6 a0 1048576 r4 q2
    try simp -implicitDefEqProofs only [go_sem, Nat.reduceLT, Nat.reduceAdd, Nat.reduceSub, Nat.reduceMul, Nat.reduceEqDiff, Nat.reduceBEq, Nat.reduceLeDiff, Int.reduceToNat, Int.reduceLT, Int.reduceLE, Int.reduceEq, reduceCtorEq, ↓reduceIte] at w3
    try simp -implicitDefEqProofs only [go_sem, Nat.reduceLT, Nat.reduceAdd, Nat.reduceSub, Nat.reduceMul, Nat.reduceEqDiff, Nat.reduceBEq, Nat.reduceLeDiff, Int.reduceToNat, Int.reduceLT, Int.reduceLE, Int.reduceEq, reduceCtorEq, ↓reduceIte, i3, c3, b1, w3]
    cases b5 : (ltI r4 0 : Bool)
    · replace h := br_f b5 h
      obtain ⟨r8, q6, h⟩ := bnd_some h
      have w7 := e8 a0 r8 q6
      try simp -implicitDefEqProofs only [go_sem, Nat.reduceLT, Nat.reduceAdd, Nat.reduceSub, Nat.reduceMul, Nat.reduceEqDiff, Nat.reduceBEq, Nat.reduceLeDiff, Int.reduceToNat, Int.reduceLT, Int.reduceLE, Int.reduceEq, reduceCtorEq, ↓reduceIte] at w7
      obtain ⟨r11, q9, h⟩ := bnd_some h
      have w10 := e9 a1 r11 q9
      try simp -implicitDefEqProofs only [go_sem, Nat.reduceLT, Nat.reduceAdd, Nat.reduceSub, Nat.reduceMul, Nat.reduceEqDiff, Nat.reduceBEq, Nat.reduceLeDiff, Int.reduceToNat, Int.reduceLT, Int.reduceLE, Int.reduceEq, reduceCtorEq, ↓reduceIte] at w10
      obtain ⟨⟨r14, r15⟩, q12, h⟩ := bnd_some h
      replace h := sel2_some h
      have w13 := e7 r8 r11 (r14, r15) q12
      try simp -implicitDefEqProofs only [go_sem, Nat.reduceLT, Nat.reduceAdd, Nat.reduceSub, Nat.reduceMul, Nat.reduceEqDiff, Nat.reduceBEq, Nat.reduceLeDiff, Int.reduceToNat, Int.reduceLT, Int.reduceLE, Int.reduceEq, reduceCtorEq, ↓reduceIte] at w13
      obtain ⟨⟨r22, r23⟩, q20, h⟩ := bnd_some h
      replace h := sel2_some h
      have w21 := e10 r8 r11 (r22, r23) q20
      try simp -implicitDefEqProofs only [go_sem, Nat.reduceLT, Nat.reduceAdd, Nat.reduceSub, Nat.reduceMul, Nat.reduceEqDiff, Nat.reduceBEq, Nat.reduceLeDiff, Int.reduceToNat, Int.reduceLT, Int.reduceLE, Int.reduceEq, reduceCtorEq, ↓reduceIte] at w21
      obtain ⟨v27, q25, h⟩ := bnd_some h
      have w26 := e3_1 a0 a1 r14 r15 r22 r23 r8 r11 v27 q25
      simp only [X3_1] at w26
      try simp -implicitDefEqProofs only [go_sem, Nat.reduceLT, Nat.reduceAdd, Nat.reduceSub, Nat.reduceMul, Nat.reduceEqDiff, Nat.reduceBEq, Nat.reduceLeDiff, Int.reduceToNat, Int.reduceLT, Int.reduceLE, Int.reduceEq, reduceCtorEq, ↓reduceIte] at w26
      try simp -implicitDefEqProofs only [go_sem, Nat.reduceLT, Nat.reduceAdd, Nat.reduceSub, Nat.reduceMul, Nat.reduceEqDiff, Nat.reduceBEq, Nat.reduceLeDiff, Int.reduceToNat, Int.reduceLT, Int.reduceLE, Int.reduceEq, reduceCtorEq, ↓reduceIte, i3, c3, b1, w3, b5, w7, w10, w13, w21, w26]
      cases b28 : (v27 : Bool)
      · replace h := br_f b28 h
        obtain ⟨r33, q31, h⟩ := bnd_some h
        have w32 := e11 r8 r8 r33 q31
        try simp -implicitDefEqProofs only [go_sem, Nat.reduceLT, Nat.reduceAdd, Nat.reduceSub, Nat.reduceMul, Nat.reduceEqDiff, Nat.reduceBEq, Nat.reduceLeDiff, Int.reduceToNat, Int.reduceLT, Int.reduceLE, Int.reduceEq, reduceCtorEq, ↓reduceIte] at w32
        try simp -implicitDefEqProofs only [go_sem, Nat.reduceLT, Nat.reduceAdd, Nat.reduceSub, Nat.reduceMul, Nat.reduceEqDiff, Nat.reduceBEq, Nat.reduceLeDiff, Int.reduceToNat, Int.reduceLT, Int.reduceLE, Int.reduceEq, reduceCtorEq, ↓reduceIte, i3, c3, b1, w3, b5, w7, w10, w13, w21, w26, b28, w32]
        cases b34 : (r33 : Bool)
        · replace h := br_f b34 h
          cases h
          simp -implicitDefEqProofs only [go_sem, Nat.reduceLT, Nat.reduceAdd, Nat.reduceSub, Nat.reduceMul, Nat.reduceEqDiff, Nat.reduceBEq, Nat.reduceLeDiff, Int.reduceToNat, Int.reduceLT, Int.reduceLE, Int.reduceEq, reduceCtorEq, ↓reduceIte, i3, c3, b1, w3, b5, w7, w10, w13, w21, w26, b28, w32, b34]
        · replace h := br_t b34 h
          obtain ⟨r39, q37, h⟩ := bnd_some h
          have w38 := e12 r11 r11 r39 q37
          try simp -implicitDefEqProofs only [go_sem, Nat.reduceLT, Nat.reduceAdd, Nat.reduceSub, Nat.reduceMul, Nat.reduceEqDiff, Nat.reduceBEq, Nat.reduceLeDiff, Int.reduceToNat, Int.reduceLT, Int.reduceLE, Int.reduceEq, reduceCtorEq, ↓reduceIte] at w38
          try simp -implicitDefEqProofs only [go_sem, Nat.reduceLT, Nat.reduceAdd, Nat.reduceSub, Nat.reduceMul, Nat.reduceEqDiff, Nat.reduceBEq, Nat.reduceLeDiff, Int.reduceToNat, Int.reduceLT, Int.reduceLE, Int.reduceEq, reduceCtorEq, ↓reduceIte, i3, c3, b1, w3, b5, w7, w10, w13, w21, w26, b28, w32, b34, w38]
          cases b40 : (r39 : Bool)
          · replace h := br_f b40 h
            cases h
            simp -implicitDefEqProofs only [go_sem, Nat.reduceLT, Nat.reduceAdd, Nat.reduceSub, Nat.reduceMul, Nat.reduceEqDiff, Nat.reduceBEq, Nat.reduceLeDiff, Int.reduceToNat, Int.reduceLT, Int.reduceLE, Int.reduceEq, reduceCtorEq, ↓reduceIte, i3, c3, b1, w3, b5, w7, w10, w13, w21, w26, b28, w32, b34, w38, b40]
          · replace h := br_t b40 h
            cases h
            simp -implicitDefEqProofs only [go_sem, Nat.reduceLT, Nat.reduceAdd, Nat.reduceSub, Nat.reduceMul, Nat.reduceEqDiff, Nat.reduceBEq, Nat.reduceLeDiff, Int.reduceToNat, Int.reduceLT, Int.reduceLE, Int.reduceEq, reduceCtorEq, ↓reduceIte, i3, c3, b1, w3, b5, w7, w10, w13, w21, w26, b28, w32, b34, w38, b40]
      · replace h := br_t b28 h
        cases h
        simp -implicitDefEqProofs only [go_sem, Nat.reduceLT, Nat.reduceAdd, Nat.reduceSub, Nat.reduceMul, Nat.reduceEqDiff, Nat.reduceBEq, Nat.reduceLeDiff, Int.reduceToNat, Int.reduceLT, Int.reduceLE, Int.reduceEq, reduceCtorEq, ↓reduceIte, i3, c3, b1, w3, b5, w7, w10, w13, w21, w26, b28]
    · replace h := br_t b5 h
      cases h
      simp -implicitDefEqProofs only [go_sem, Nat.reduceLT, Nat.reduceAdd, Nat.reduceSub, Nat.reduceMul, Nat.reduceEqDiff, Nat.reduceBEq, Nat.reduceLeDiff, Int.reduceToNat, Int.reduceLT, Int.reduceLE, Int.reduceEq, reduceCtorEq, ↓reduceIte, i3, c3, b1, w3, b5]
  · replace h := br_t b1 h
    cases h
    simp -implicitDefEqProofs only [go_sem, Nat.reduceLT, Nat.reduceAdd, Nat.reduceSub, Nat.reduceMul, Nat.reduceEqDiff, Nat.reduceBEq, Nat.reduceLeDiff, Int.reduceToNat, Int.reduceLT, Int.reduceLE, Int.reduceEq, reduceCtorEq, ↓reduceIte, i3, c3, b1]
end Go.Pi.Ytnogicfhdgpdjaa.MatchPath
