/- What functions of the program answer, and that the law answers true at every input; no condition -/
import Derived.Test.YtpfoleebeamgpaaStableOnesFuaStableOnes
set_option linter.all false
/- Functions of the program: that the code answers as the plain functions do, the rest. -/
namespace Go.Pi.Ytpfoleebeamgpaa.StableOnes
open Go Go.Proofs Go.Pi
set_option maxRecDepth 100000
set_option linter.all false
-- f91 slices.IndexFunc[[][]int,[]int]
theorem call91 (args : List AV) (S : St) : evCall T (evFL T) 91 args S = lendC (evFL T 91) S (lendAll S [[1], [0]] args) := evCall0 fn91 rfl rfl rfl args S
theorem callz91 (args : List AV) (S : St) : evCallFz T (evFL T) 91 args S = lendZ (evFL T 91) S [[0]] (lendAll S [[1], [0]] args) := evCallFz0 fn91 rfl rfl rfl args S
theorem calls91 (args : List AV) (S : St) : evCall (T.at true) (evFL T) 91 args S = lendC (evFL T 91) S (lendAll S [[1], [0]] args) := evCall0 fns91 rfl rfl rfl args S
theorem callsz91 (args : List AV) (S : St) : evCallFz (T.at true) (evFL T) 91 args S = lendZ (evFL T 91) S [[0]] (lendAll S [[1], [0]] args) := evCallFz0 fns91 rfl rfl rfl args S
attribute [go_sem] call91 callz91 calls91 callsz91
noncomputable def X91_1 (a1_f : Nat) (a1_c : List AV) (a0 : (List (List Int))) (p1 : Int) (a1 : ((List Int) → Option Bool)) (o : (Unit ⊕ Int)) : Ex × Fr × St :=
  match o with
  | .inl o => (.exit 0, frOf 19 (anyF), [])
  | .inr o => (.ret, frOf 19 (upd anyF 4 (.int .i64 o)), [])
noncomputable def E91_1 (a1_f : Nat) (a1_c : List AV) (a0 : (List (List Int))) (p1 : Int) (a1 : ((List Int) → Option Bool)) (s : Int) : Fr × St := (frOf 19 (upd (upd (upd (upd anyF 0 (.ts .imm 1 (a0.map (encLInt .imm)))) 1 (.fn a1_f a1_c)) 7 (.int .i64 p1)) 8 (.int .i64 s)), [])
theorem b91_1 (a0 : (List (List Int))) (p1 : Int) (a1 : ((List Int) → Option Bool)) (a1_f : Nat) (a1_c : List AV) (a1_h : ((∀ S, mapO (lendPtr S) a1_c = some a1_c) ∧ (∀ n0 src R tm t c, tdL n0 src R tm t c a1_c = some a1_c)) ∧ ∀ y0 r, a1 y0 = some r → (∀ S, evCall T (evFL T) a1_f ([.ts .imm 1 (y0.map encInt)] ++ a1_c) S = some (.bool r, S)) ∧ (∀ S, evCallFz T (evFL T) a1_f ([.ts .imm 1 (y0.map encInt)] ++ a1_c) S = some (.bool r, S))) (s : Int) (o : Ctl Int (Unit ⊕ Int)) (h : m91_1b a0 p1 a1 s = some o) : evCL T 0 k91_1b (E91_1 a1_f a1_c a0 p1 a1 s).1 (E91_1 a1_f a1_c a0 p1 a1 s).2 = some (ctlX (E91_1 a1_f a1_c a0 p1 a1) (X91_1 a1_f a1_c a0 p1 a1) o) := by
  unfold m91_1b at h
  revert h
  generalize s = s12
  intro h
  try simp -implicitDefEqProofs only [go_sem, Nat.reduceLT, Nat.reduceAdd, Nat.reduceSub, Nat.reduceMul, Nat.reduceEqDiff, Nat.reduceBEq, Nat.reduceLeDiff, Int.reduceToNat, Int.reduceLT, Int.reduceLE, Int.reduceEq, reduceCtorEq, ↓reduceIte, E91_1, X91_1, k91_1b, a1_h.1]
  cases b13 : (ltI s12 p1 : Bool)
  · replace h := br_f b13 h
    cases h
    simp -implicitDefEqProofs only [go_sem, Nat.reduceLT, Nat.reduceAdd, Nat.reduceSub, Nat.reduceMul, Nat.reduceEqDiff, Nat.reduceBEq, Nat.reduceLeDiff, Int.reduceToNat, Int.reduceLT, Int.reduceLE, Int.reduceEq, reduceCtorEq, ↓reduceIte, E91_1, X91_1, k91_1b, a1_h.1, b13]
  · replace h := br_t b13 h
    obtain ⟨x14, q15, h⟩ := bnd_some h
    obtain ⟨g16, g17, g18⟩ := idx_row (encLInt .imm) q15
    try simp -implicitDefEqProofs only [go_sem, Nat.reduceLT, Nat.reduceAdd, Nat.reduceSub, Nat.reduceMul, Nat.reduceEqDiff, Nat.reduceBEq, Nat.reduceLeDiff, Int.reduceToNat, Int.reduceLT, Int.reduceLE, Int.reduceEq, reduceCtorEq, ↓reduceIte] at g17
    try simp -implicitDefEqProofs only [go_sem, Nat.reduceLT, Nat.reduceAdd, Nat.reduceSub, Nat.reduceMul, Nat.reduceEqDiff, Nat.reduceBEq, Nat.reduceLeDiff, Int.reduceToNat, Int.reduceLT, Int.reduceLE, Int.reduceEq, reduceCtorEq, ↓reduceIte] at g18
    obtain ⟨r19, q20, h⟩ := bnd_some h
    have w21 := a1_h.2 x14 r19 q20
    try simp -implicitDefEqProofs only [go_sem, Nat.reduceLT, Nat.reduceAdd, Nat.reduceSub, Nat.reduceMul, Nat.reduceEqDiff, Nat.reduceBEq, Nat.reduceLeDiff, Int.reduceToNat, Int.reduceLT, Int.reduceLE, Int.reduceEq, reduceCtorEq, ↓reduceIte] at w21
    try simp -implicitDefEqProofs only [go_sem, Nat.reduceLT, Nat.reduceAdd, Nat.reduceSub, Nat.reduceMul, Nat.reduceEqDiff, Nat.reduceBEq, Nat.reduceLeDiff, Int.reduceToNat, Int.reduceLT, Int.reduceLE, Int.reduceEq, reduceCtorEq, ↓reduceIte, E91_1, X91_1, k91_1b, a1_h.1, b13, g16, g17, g18, w21.1, w21.2]
    cases b22 : (r19 : Bool)
    · replace h := br_f b22 h
      cases h
      simp -implicitDefEqProofs only [go_sem, Nat.reduceLT, Nat.reduceAdd, Nat.reduceSub, Nat.reduceMul, Nat.reduceEqDiff, Nat.reduceBEq, Nat.reduceLeDiff, Int.reduceToNat, Int.reduceLT, Int.reduceLE, Int.reduceEq, reduceCtorEq, ↓reduceIte, E91_1, X91_1, k91_1b, a1_h.1, b13, g16, g17, g18, w21.1, w21.2, b22]
    · replace h := br_t b22 h
      cases h
      simp -implicitDefEqProofs only [go_sem, Nat.reduceLT, Nat.reduceAdd, Nat.reduceSub, Nat.reduceMul, Nat.reduceEqDiff, Nat.reduceBEq, Nat.reduceLeDiff, Int.reduceToNat, Int.reduceLT, Int.reduceLE, Int.reduceEq, reduceCtorEq, ↓reduceIte, E91_1, X91_1, k91_1b, a1_h.1, b13, g16, g17, g18, w21.1, w21.2, b22]
theorem e91_1 (a0 : (List (List Int))) (p1 : Int) (a1 : ((List Int) → Option Bool)) (a1_f : Nat) (a1_c : List AV) (a1_h : ((∀ S, mapO (lendPtr S) a1_c = some a1_c) ∧ (∀ n0 src R tm t c, tdL n0 src R tm t c a1_c = some a1_c)) ∧ ∀ y0 r, a1 y0 = some r → (∀ S, evCall T (evFL T) a1_f ([.ts .imm 1 (y0.map encInt)] ++ a1_c) S = some (.bool r, S)) ∧ (∀ S, evCallFz T (evFL T) a1_f ([.ts .imm 1 (y0.map encInt)] ++ a1_c) S = some (.bool r, S))) (s : Int) (o : (Unit ⊕ Int)) (h : loopP (m91_1b a0 p1 a1) s = some o) : evCL T 0 (.loop k91_1b) (E91_1 a1_f a1_c a0 p1 a1 s).1 (E91_1 a1_f a1_c a0 p1 a1 s).2 = some (X91_1 a1_f a1_c a0 p1 a1 o) :=
  loop_walk (E := E91_1 a1_f a1_c a0 p1 a1) (X := X91_1 a1_f a1_c a0 p1 a1) (by intro b; rcases b with b | b <;> (simp only [X91_1]; nofun)) (b91_1 a0 p1 a1 a1_f a1_c a1_h) s o h
theorem e91 (a0 : (List (List Int))) (a1 : ((List Int) → Option Bool)) (a1_f : Nat) (a1_c : List AV) (a1_h : ((∀ S, mapO (lendPtr S) a1_c = some a1_c) ∧ (∀ n0 src R tm t c, tdL n0 src R tm t c a1_c = some a1_c)) ∧ ∀ y0 r, a1 y0 = some r → (∀ S, evCall T (evFL T) a1_f ([.ts .imm 1 (y0.map encInt)] ++ a1_c) S = some (.bool r, S)) ∧ (∀ S, evCallFz T (evFL T) a1_f ([.ts .imm 1 (y0.map encInt)] ++ a1_c) S = some (.bool r, S))) (r : Int) (h : m91 a0 a1 = some r) : evFL T 91 [.ts .imm 1 (a0.map (encLInt .imm)), .fn a1_f a1_c] [] = some (.int .i64 r, []) := by
  unfold m91 at h
  rw [evFL_at fn91 (Nat.le_of_ble_eq_true rfl) rfl (.inr rfl) ⟨rfl, rfl⟩]
  try simp -implicitDefEqProofs only [go_sem, Nat.reduceLT, Nat.reduceAdd, Nat.reduceSub, Nat.reduceMul, Nat.reduceEqDiff, Nat.reduceBEq, Nat.reduceLeDiff, Int.reduceToNat, Int.reduceLT, Int.reduceLE, Int.reduceEq, reduceCtorEq, ↓reduceIte, i91, c91, a1_h.1]
  obtain ⟨o, q23, h⟩ := bnd_some h
  rcases o with ⟨⟩ | v25
  · replace h := selS_l h
    have w24 := e91_1 a0 (↑a0.length : Int) a1 a1_f a1_c a1_h 0 (.inl ()) q23
    simp only [E91_1, X91_1] at w24
    try simp -implicitDefEqProofs only [go_sem, Nat.reduceLT, Nat.reduceAdd, Nat.reduceSub, Nat.reduceMul, Nat.reduceEqDiff, Nat.reduceBEq, Nat.reduceLeDiff, Int.reduceToNat, Int.reduceLT, Int.reduceLE, Int.reduceEq, reduceCtorEq, ↓reduceIte] at w24
    cases h
    simp -implicitDefEqProofs only [go_sem, Nat.reduceLT, Nat.reduceAdd, Nat.reduceSub, Nat.reduceMul, Nat.reduceEqDiff, Nat.reduceBEq, Nat.reduceLeDiff, Int.reduceToNat, Int.reduceLT, Int.reduceLE, Int.reduceEq, reduceCtorEq, ↓reduceIte, i91, c91, a1_h.1, w24]
  · replace h := selS_r h
    have w24 := e91_1 a0 (↑a0.length : Int) a1 a1_f a1_c a1_h 0 (.inr v25) q23
    simp only [E91_1, X91_1] at w24
    try simp -implicitDefEqProofs only [go_sem, Nat.reduceLT, Nat.reduceAdd, Nat.reduceSub, Nat.reduceMul, Nat.reduceEqDiff, Nat.reduceBEq, Nat.reduceLeDiff, Int.reduceToNat, Int.reduceLT, Int.reduceLE, Int.reduceEq, reduceCtorEq, ↓reduceIte] at w24
    cases h
    simp -implicitDefEqProofs only [go_sem, Nat.reduceLT, Nat.reduceAdd, Nat.reduceSub, Nat.reduceMul, Nat.reduceEqDiff, Nat.reduceBEq, Nat.reduceLeDiff, Int.reduceToNat, Int.reduceLT, Int.reduceLE, Int.reduceEq, reduceCtorEq, ↓reduceIte, i91, c91, a1_h.1, w24]
-- f53 slices.ContainsFunc[[][]int,[]int]
theorem call53 (args : List AV) (S : St) : evCall T (evFL T) 53 args S = lendC (evFL T 53) S (lendAll S [[1], [0]] args) := evCall0 fn53 rfl rfl rfl args S
theorem callz53 (args : List AV) (S : St) : evCallFz T (evFL T) 53 args S = lendZ (evFL T 53) S [[0]] (lendAll S [[1], [0]] args) := evCallFz0 fn53 rfl rfl rfl args S
theorem calls53 (args : List AV) (S : St) : evCall (T.at true) (evFL T) 53 args S = lendC (evFL T 53) S (lendAll S [[1], [0]] args) := evCall0 fns53 rfl rfl rfl args S
theorem callsz53 (args : List AV) (S : St) : evCallFz (T.at true) (evFL T) 53 args S = lendZ (evFL T 53) S [[0]] (lendAll S [[1], [0]] args) := evCallFz0 fns53 rfl rfl rfl args S
attribute [go_sem] call53 callz53 calls53 callsz53
theorem e53 (a0 : (List (List Int))) (a1 : ((List Int) → Option Bool)) (a1_f : Nat) (a1_c : List AV) (a1_h : ((∀ S, mapO (lendPtr S) a1_c = some a1_c) ∧ (∀ n0 src R tm t c, tdL n0 src R tm t c a1_c = some a1_c)) ∧ ∀ y0 r, a1 y0 = some r → (∀ S, evCall T (evFL T) a1_f ([.ts .imm 1 (y0.map encInt)] ++ a1_c) S = some (.bool r, S)) ∧ (∀ S, evCallFz T (evFL T) a1_f ([.ts .imm 1 (y0.map encInt)] ++ a1_c) S = some (.bool r, S))) (r : Bool) (h : m53 a0 a1 = some r) : evFL T 53 [.ts .imm 1 (a0.map (encLInt .imm)), .fn a1_f a1_c] [] = some (.bool r, []) := by
  unfold m53 at h
  rw [evFL_at fn53 (Nat.le_of_ble_eq_true rfl) rfl (.inr rfl) ⟨rfl, rfl⟩]
  obtain ⟨r3, q1, h⟩ := bnd_some h
  have w2 := e91 a0 a1 a1_f a1_c a1_h r3 q1
  try simp -implicitDefEqProofs only [go_sem, Nat.reduceLT, Nat.reduceAdd, Nat.reduceSub, Nat.reduceMul, Nat.reduceEqDiff, Nat.reduceBEq, Nat.reduceLeDiff, Int.reduceToNat, Int.reduceLT, Int.reduceLE, Int.reduceEq, reduceCtorEq, ↓reduceIte] at w2
  cases h
  simp -implicitDefEqProofs only [go_sem, Nat.reduceLT, Nat.reduceAdd, Nat.reduceSub, Nat.reduceMul, Nat.reduceEqDiff, Nat.reduceBEq, Nat.reduceLeDiff, Int.reduceToNat, Int.reduceLT, Int.reduceLE, Int.reduceEq, reduceCtorEq, ↓reduceIte, i53, c53, a1_h.1, w2]
-- f55 slices.Equal[[]int,int]
theorem call55 (args : List AV) (S : St) : evCall T (evFL T) 55 args S = lendC (evFL T 55) S (lendAll S [[1], [1]] args) := evCall0 fn55 rfl rfl rfl args S
theorem callz55 (args : List AV) (S : St) : evCallFz T (evFL T) 55 args S = lendZ (evFL T 55) S [[0]] (lendAll S [[1], [1]] args) := evCallFz0 fn55 rfl rfl rfl args S
theorem calls55 (args : List AV) (S : St) : evCall (T.at true) (evFL T) 55 args S = lendC (evFL T 55) S (lendAll S [[1], [1]] args) := evCall0 fns55 rfl rfl rfl args S
theorem callsz55 (args : List AV) (S : St) : evCallFz (T.at true) (evFL T) 55 args S = lendZ (evFL T 55) S [[0]] (lendAll S [[1], [1]] args) := evCallFz0 fns55 rfl rfl rfl args S
attribute [go_sem] call55 callz55 calls55 callsz55
noncomputable def X55_1 (a0 : (List Int)) (a1 : (List Int)) (p2 : Int) (o : (Unit ⊕ Unit)) : Ex × Fr × St :=
  match o with
  | .inl o => (.exit 0, frOf 26 (anyF), [])
  | .inr o => (.ret, frOf 26 (upd anyF 4 (.bool false)), [])
noncomputable def E55_1 (a0 : (List Int)) (a1 : (List Int)) (p2 : Int) (s : Int) : Fr × St := (frOf 26 (upd (upd (upd (upd anyF 0 (.ts .imm 1 (a0.map encInt))) 1 (.ts .imm 1 (a1.map encInt))) 12 (.int .i64 p2)) 13 (.int .i64 s)), [])
theorem b55_1 (a0 : (List Int)) (a1 : (List Int)) (p2 : Int) (s : Int) (o : Ctl Int (Unit ⊕ Unit)) (h : m55_1b a0 a1 p2 s = some o) : evCL T 0 k55_1b (E55_1 a0 a1 p2 s).1 (E55_1 a0 a1 p2 s).2 = some (ctlX (E55_1 a0 a1 p2) (X55_1 a0 a1 p2) o) := by
  unfold m55_1b at h
  revert h
  generalize s = s15
  intro h
  try simp -implicitDefEqProofs only [go_sem, Nat.reduceLT, Nat.reduceAdd, Nat.reduceSub, Nat.reduceMul, Nat.reduceEqDiff, Nat.reduceBEq, Nat.reduceLeDiff, Int.reduceToNat, Int.reduceLT, Int.reduceLE, Int.reduceEq, reduceCtorEq, ↓reduceIte, E55_1, X55_1, k55_1b]
  cases b16 : (ltI s15 p2 : Bool)
  · replace h := br_f b16 h
    cases h
    simp -implicitDefEqProofs only [go_sem, Nat.reduceLT, Nat.reduceAdd, Nat.reduceSub, Nat.reduceMul, Nat.reduceEqDiff, Nat.reduceBEq, Nat.reduceLeDiff, Int.reduceToNat, Int.reduceLT, Int.reduceLE, Int.reduceEq, reduceCtorEq, ↓reduceIte, E55_1, X55_1, k55_1b, b16]
  · replace h := br_t b16 h
    obtain ⟨x17, q18, h⟩ := bnd_some h
    obtain ⟨g19, g20, g21⟩ := idx_row encInt q18
    try simp -implicitDefEqProofs only [go_sem, Nat.reduceLT, Nat.reduceAdd, Nat.reduceSub, Nat.reduceMul, Nat.reduceEqDiff, Nat.reduceBEq, Nat.reduceLeDiff, Int.reduceToNat, Int.reduceLT, Int.reduceLE, Int.reduceEq, reduceCtorEq, ↓reduceIte] at g20
    try simp -implicitDefEqProofs only [go_sem, Nat.reduceLT, Nat.reduceAdd, Nat.reduceSub, Nat.reduceMul, Nat.reduceEqDiff, Nat.reduceBEq, Nat.reduceLeDiff, Int.reduceToNat, Int.reduceLT, Int.reduceLE, Int.reduceEq, reduceCtorEq, ↓reduceIte] at g21
    obtain ⟨x22, q23, h⟩ := bnd_some h
    obtain ⟨g24, g25, g26⟩ := idx_row encInt q23
    try simp -implicitDefEqProofs only [go_sem, Nat.reduceLT, Nat.reduceAdd, Nat.reduceSub, Nat.reduceMul, Nat.reduceEqDiff, Nat.reduceBEq, Nat.reduceLeDiff, Int.reduceToNat, Int.reduceLT, Int.reduceLE, Int.reduceEq, reduceCtorEq, ↓reduceIte] at g25
    try simp -implicitDefEqProofs only [go_sem, Nat.reduceLT, Nat.reduceAdd, Nat.reduceSub, Nat.reduceMul, Nat.reduceEqDiff, Nat.reduceBEq, Nat.reduceLeDiff, Int.reduceToNat, Int.reduceLT, Int.reduceLE, Int.reduceEq, reduceCtorEq, ↓reduceIte] at g26
    try simp -implicitDefEqProofs only [go_sem, Nat.reduceLT, Nat.reduceAdd, Nat.reduceSub, Nat.reduceMul, Nat.reduceEqDiff, Nat.reduceBEq, Nat.reduceLeDiff, Int.reduceToNat, Int.reduceLT, Int.reduceLE, Int.reduceEq, reduceCtorEq, ↓reduceIte, E55_1, X55_1, k55_1b, b16, g19, g20, g21, g24, g25, g26]
    cases b27 : (eqI x17 x22 : Bool)
    · replace h := br_f b27 h
      cases h
      simp -implicitDefEqProofs only [go_sem, Nat.reduceLT, Nat.reduceAdd, Nat.reduceSub, Nat.reduceMul, Nat.reduceEqDiff, Nat.reduceBEq, Nat.reduceLeDiff, Int.reduceToNat, Int.reduceLT, Int.reduceLE, Int.reduceEq, reduceCtorEq, ↓reduceIte, E55_1, X55_1, k55_1b, b16, g19, g20, g21, g24, g25, g26, b27]
    · replace h := br_t b27 h
      cases h
      simp -implicitDefEqProofs only [go_sem, Nat.reduceLT, Nat.reduceAdd, Nat.reduceSub, Nat.reduceMul, Nat.reduceEqDiff, Nat.reduceBEq, Nat.reduceLeDiff, Int.reduceToNat, Int.reduceLT, Int.reduceLE, Int.reduceEq, reduceCtorEq, ↓reduceIte, E55_1, X55_1, k55_1b, b16, g19, g20, g21, g24, g25, g26, b27]
theorem e55_1 (a0 : (List Int)) (a1 : (List Int)) (p2 : Int) (s : Int) (o : (Unit ⊕ Unit)) (h : loopP (m55_1b a0 a1 p2) s = some o) : evCL T 0 (.loop k55_1b) (E55_1 a0 a1 p2 s).1 (E55_1 a0 a1 p2 s).2 = some (X55_1 a0 a1 p2 o) :=
  loop_walk (E := E55_1 a0 a1 p2) (X := X55_1 a0 a1 p2) (by intro b; rcases b with b | b <;> (simp only [X55_1]; nofun)) (b55_1 a0 a1 p2) s o h
theorem e55 (a0 : (List Int)) (a1 : (List Int)) (r : Bool) (h : m55 a0 a1 = some r) : evFL T 55 [.ts .imm 1 (a0.map encInt), .ts .imm 1 (a1.map encInt)] [] = some (.bool r, []) := by
  unfold m55 at h
  rw [evFL_at fn55 (Nat.le_of_ble_eq_true rfl) rfl (.inr rfl) ⟨rfl, rfl⟩]
  try simp -implicitDefEqProofs only [go_sem, Nat.reduceLT, Nat.reduceAdd, Nat.reduceSub, Nat.reduceMul, Nat.reduceEqDiff, Nat.reduceBEq, Nat.reduceLeDiff, Int.reduceToNat, Int.reduceLT, Int.reduceLE, Int.reduceEq, reduceCtorEq, ↓reduceIte, i55, c55]
  cases b1 : (eqI (↑a0.length : Int) (↑a1.length : Int) : Bool)
  · replace h := br_f b1 h
    cases h
    simp -implicitDefEqProofs only [go_sem, Nat.reduceLT, Nat.reduceAdd, Nat.reduceSub, Nat.reduceMul, Nat.reduceEqDiff, Nat.reduceBEq, Nat.reduceLeDiff, Int.reduceToNat, Int.reduceLT, Int.reduceLE, Int.reduceEq, reduceCtorEq, ↓reduceIte, i55, c55, b1]
  · replace h := br_t b1 h
    try simp -implicitDefEqProofs only [go_sem, Nat.reduceLT, Nat.reduceAdd, Nat.reduceSub, Nat.reduceMul, Nat.reduceEqDiff, Nat.reduceBEq, Nat.reduceLeDiff, Int.reduceToNat, Int.reduceLT, Int.reduceLE, Int.reduceEq, reduceCtorEq, ↓reduceIte, i55, c55, b1]
    obtain ⟨o, q28, h⟩ := bnd_some h
    rcases o with ⟨⟩ | ⟨⟩
    · replace h := selS_l h
      have w29 := e55_1 a0 a1 (↑a0.length : Int) 0 (.inl ()) q28
      simp only [E55_1, X55_1] at w29
      try simp -implicitDefEqProofs only [go_sem, Nat.reduceLT, Nat.reduceAdd, Nat.reduceSub, Nat.reduceMul, Nat.reduceEqDiff, Nat.reduceBEq, Nat.reduceLeDiff, Int.reduceToNat, Int.reduceLT, Int.reduceLE, Int.reduceEq, reduceCtorEq, ↓reduceIte] at w29
      cases h
      simp -implicitDefEqProofs only [go_sem, Nat.reduceLT, Nat.reduceAdd, Nat.reduceSub, Nat.reduceMul, Nat.reduceEqDiff, Nat.reduceBEq, Nat.reduceLeDiff, Int.reduceToNat, Int.reduceLT, Int.reduceLE, Int.reduceEq, reduceCtorEq, ↓reduceIte, i55, c55, b1, w29]
    · replace h := selS_r h
      have w29 := e55_1 a0 a1 (↑a0.length : Int) 0 (.inr ()) q28
      simp only [E55_1, X55_1] at w29
      try simp -implicitDefEqProofs only [go_sem, Nat.reduceLT, Nat.reduceAdd, Nat.reduceSub, Nat.reduceMul, Nat.reduceEqDiff, Nat.reduceBEq, Nat.reduceLeDiff, Int.reduceToNat, Int.reduceLT, Int.reduceLE, Int.reduceEq, reduceCtorEq, ↓reduceIte] at w29
      cases h
      simp -implicitDefEqProofs only [go_sem, Nat.reduceLT, Nat.reduceAdd, Nat.reduceSub, Nat.reduceMul, Nat.reduceEqDiff, Nat.reduceBEq, Nat.reduceLeDiff, Int.reduceToNat, Int.reduceLT, Int.reduceLE, Int.reduceEq, reduceCtorEq, ↓reduceIte, i55, c55, b1, w29]
-- f90 impl.isWay$1
theorem call90 (args : List AV) (S : St) : evCall T (evFL T) 90 args S = lendC (evFL T 90) S (lendAll S [[1], [0]] args) := evCall0 fn90 rfl rfl rfl args S
theorem callz90 (args : List AV) (S : St) : evCallFz T (evFL T) 90 args S = lendZ (evFL T 90) S [[0]] (lendAll S [[1], [0]] args) := evCallFz0 fn90 rfl rfl rfl args S
theorem calls90 (args : List AV) (S : St) : evCall (T.at true) (evFL T) 90 args S = lendC (evFL T 90) S (lendAll S [[1], [0]] args) := evCall0 fns90 rfl rfl rfl args S
theorem callsz90 (args : List AV) (S : St) : evCallFz (T.at true) (evFL T) 90 args S = lendZ (evFL T 90) S [[0]] (lendAll S [[1], [0]] args) := evCallFz0 fns90 rfl rfl rfl args S
attribute [go_sem] call90 callz90 calls90 callsz90
theorem e90 (a0 : (List Int)) (a1 : (List Int)) (r : Bool) (h : m90 a0 a1 = some r) : evFL T 90 [.ts .imm 1 (a0.map encInt), .tp .imm 1 [[.ts .imm 1 (a1.map encInt)]] 0 0] [] = some (.bool r, []) := by
  unfold m90 at h
  rw [evFL_at fn90 (Nat.le_of_ble_eq_true rfl) rfl (.inr rfl) ⟨rfl, rfl⟩]
  obtain ⟨g1, h⟩ := ck_some h
  try simp -implicitDefEqProofs only [go_sem, Nat.reduceLT, Nat.reduceAdd, Nat.reduceSub, Nat.reduceMul, Nat.reduceEqDiff, Nat.reduceBEq, Nat.reduceLeDiff, Int.reduceToNat, Int.reduceLT, Int.reduceLE, Int.reduceEq, reduceCtorEq, ↓reduceIte] at g1
  obtain ⟨r4, q2, h⟩ := bnd_some h
  have w3 := e55 a0 (a1.drop 1) r4 q2
  try simp -implicitDefEqProofs only [go_sem, Nat.reduceLT, Nat.reduceAdd, Nat.reduceSub, Nat.reduceMul, Nat.reduceEqDiff, Nat.reduceBEq, Nat.reduceLeDiff, Int.reduceToNat, Int.reduceLT, Int.reduceLE, Int.reduceEq, reduceCtorEq, ↓reduceIte] at w3
  cases h
  simp -implicitDefEqProofs only [go_sem, Nat.reduceLT, Nat.reduceAdd, Nat.reduceSub, Nat.reduceMul, Nat.reduceEqDiff, Nat.reduceBEq, Nat.reduceLeDiff, Int.reduceToNat, Int.reduceLT, Int.reduceLE, Int.reduceEq, reduceCtorEq, ↓reduceIte, i90, c90, g1, w3]
-- f52 impl.isWay
theorem call52 (args : List AV) (S : St) : evCall T (evFL T) 52 args S = lendC (evFL T 52) S (lendAll S [[1], [0], [1]] args) := evCall0 fn52 rfl rfl rfl args S
theorem callz52 (args : List AV) (S : St) : evCallFz T (evFL T) 52 args S = lendZ (evFL T 52) S [[0]] (lendAll S [[1], [0], [1]] args) := evCallFz0 fn52 rfl rfl rfl args S
theorem calls52 (args : List AV) (S : St) : evCall (T.at true) (evFL T) 52 args S = lendC (evFL T 52) S (lendAll S [[1], [0], [1]] args) := evCall0 fns52 rfl rfl rfl args S
theorem callsz52 (args : List AV) (S : St) : evCallFz (T.at true) (evFL T) 52 args S = lendZ (evFL T 52) S [[0]] (lendAll S [[1], [0], [1]] args) := evCallFz0 fns52 rfl rfl rfl args S
attribute [go_sem] call52 callz52 calls52 callsz52
noncomputable def X52_1 (a1 : Int) (p1 : Int) (a0 : Spp) (a2 : (List Int)) (o : Bool) : Ex × Fr × St :=
  (.normal, frOf 69 (upd (upd (upd (upd anyF 3 (.ptr 0 0 0)) 5 (.ptr 1 0 0)) 7 (.int .i64 p1)) 28 (.bool o)), [some ⟨.box, 1, [[.ts .imm 1 (a0.ranked.map (encLLInt .imm))]]⟩, some ⟨.box, 1, [[.ts .imm 1 (a2.map encInt)]]⟩])
theorem e52_1 (a1 : Int) (p1 : Int) (a0 : Spp) (a2 : (List Int)) (o : Bool) (h : m52_1 a1 p1 a2 = some o) : evCL T 0 k52_1 (frOf 69 (upd (upd (upd (upd anyF 1 (.int .i64 a1)) 3 (.ptr 0 0 0)) 5 (.ptr 1 0 0)) 7 (.int .i64 p1))) [some ⟨.box, 1, [[.ts .imm 1 (a0.ranked.map (encLLInt .imm))]]⟩, some ⟨.box, 1, [[.ts .imm 1 (a2.map encInt)]]⟩] = some (X52_1 a1 p1 a0 a2 o) := by
  unfold m52_1 at h
  try simp -implicitDefEqProofs only [go_sem, Nat.reduceLT, Nat.reduceAdd, Nat.reduceSub, Nat.reduceMul, Nat.reduceEqDiff, Nat.reduceBEq, Nat.reduceLeDiff, Int.reduceToNat, Int.reduceLT, Int.reduceLE, Int.reduceEq, reduceCtorEq, ↓reduceIte, X52_1, k52_1]
  cases b2 : (ltI p1 1 : Bool)
  · replace h := br_f b2 h
    obtain ⟨x3, q4, h⟩ := bnd_some h
    obtain ⟨g5, g6, g7⟩ := idx_row encInt q4
    try simp -implicitDefEqProofs only [go_sem, Nat.reduceLT, Nat.reduceAdd, Nat.reduceSub, Nat.reduceMul, Nat.reduceEqDiff, Nat.reduceBEq, Nat.reduceLeDiff, Int.reduceToNat, Int.reduceLT, Int.reduceLE, Int.reduceEq, reduceCtorEq, ↓reduceIte] at g6
    try simp -implicitDefEqProofs only [go_sem, Nat.reduceLT, Nat.reduceAdd, Nat.reduceSub, Nat.reduceMul, Nat.reduceEqDiff, Nat.reduceBEq, Nat.reduceLeDiff, Int.reduceToNat, Int.reduceLT, Int.reduceLE, Int.reduceEq, reduceCtorEq, ↓reduceIte] at g7
    try simp -implicitDefEqProofs only [go_sem, Nat.reduceLT, Nat.reduceAdd, Nat.reduceSub, Nat.reduceMul, Nat.reduceEqDiff, Nat.reduceBEq, Nat.reduceLeDiff, Int.reduceToNat, Int.reduceLT, Int.reduceLE, Int.reduceEq, reduceCtorEq, ↓reduceIte, X52_1, k52_1, b2, g5, g6, g7]
    cases b8 : (eqI x3 a1 : Bool)
    · replace h := br_f b8 h
      cases h
      simp -implicitDefEqProofs only [go_sem, Nat.reduceLT, Nat.reduceAdd, Nat.reduceSub, Nat.reduceMul, Nat.reduceEqDiff, Nat.reduceBEq, Nat.reduceLeDiff, Int.reduceToNat, Int.reduceLT, Int.reduceLE, Int.reduceEq, reduceCtorEq, ↓reduceIte, X52_1, k52_1, b2, g5, g6, g7, b8]
    · replace h := br_t b8 h
      obtain ⟨x9, q10, h⟩ := bnd_some h
      obtain ⟨g11, g12, g13⟩ := idx_row encInt q10
      try simp -implicitDefEqProofs only [go_sem, Nat.reduceLT, Nat.reduceAdd, Nat.reduceSub, Nat.reduceMul, Nat.reduceEqDiff, Nat.reduceBEq, Nat.reduceLeDiff, Int.reduceToNat, Int.reduceLT, Int.reduceLE, Int.reduceEq, reduceCtorEq, ↓reduceIte] at g12
      try simp -implicitDefEqProofs only [go_sem, Nat.reduceLT, Nat.reduceAdd, Nat.reduceSub, Nat.reduceMul, Nat.reduceEqDiff, Nat.reduceBEq, Nat.reduceLeDiff, Int.reduceToNat, Int.reduceLT, Int.reduceLE, Int.reduceEq, reduceCtorEq, ↓reduceIte] at g13
      cases h
      simp -implicitDefEqProofs only [go_sem, Nat.reduceLT, Nat.reduceAdd, Nat.reduceSub, Nat.reduceMul, Nat.reduceEqDiff, Nat.reduceBEq, Nat.reduceLeDiff, Int.reduceToNat, Int.reduceLT, Int.reduceLE, Int.reduceEq, reduceCtorEq, ↓reduceIte, X52_1, k52_1, b2, g5, g6, g7, b8, g11, g12, g13]
  · replace h := br_t b2 h
    cases h
    simp -implicitDefEqProofs only [go_sem, Nat.reduceLT, Nat.reduceAdd, Nat.reduceSub, Nat.reduceMul, Nat.reduceEqDiff, Nat.reduceBEq, Nat.reduceLeDiff, Int.reduceToNat, Int.reduceLT, Int.reduceLE, Int.reduceEq, reduceCtorEq, ↓reduceIte, X52_1, k52_1, b2]
noncomputable def X52_4 (p18 : Int) (s43 : Int) (x45 : Int) (a2 : (List Int)) (p19 : Int) (a0 : Spp) (o : Bool) : Ex × Fr × St :=
  (.normal, frOf 69 (upd (upd (upd (upd (upd (upd (upd anyF 3 (.ptr 0 0 0)) 5 (.ptr 1 0 0)) 7 (.int .i64 p18)) 29 (.ts .imm 1 (a2.map encInt))) 30 (.int .i64 p19)) 31 (.int .i64 s43)) 53 (.bool o)), [some ⟨.box, 1, [[.ts .imm 1 (a0.ranked.map (encLLInt .imm))]]⟩, some ⟨.box, 1, [[.ts .imm 1 (a2.map encInt)]]⟩])
theorem e52_4 (p18 : Int) (s43 : Int) (x45 : Int) (a2 : (List Int)) (p19 : Int) (a0 : Spp) (o : Bool) (h : m52_4 p18 s43 x45 a2 a0 = some o) : evCL T 0 k52_4 (frOf 69 (upd (upd (upd (upd (upd (upd (upd (upd anyF 3 (.ptr 0 0 0)) 5 (.ptr 1 0 0)) 7 (.int .i64 p18)) 8 (.int .i64 s43)) 9 (.int .i64 x45)) 29 (.ts .imm 1 (a2.map encInt))) 30 (.int .i64 p19)) 31 (.int .i64 s43))) [some ⟨.box, 1, [[.ts .imm 1 (a0.ranked.map (encLLInt .imm))]]⟩, some ⟨.box, 1, [[.ts .imm 1 (a2.map encInt)]]⟩] = some (X52_4 p18 s43 x45 a2 p19 a0 o) := by
  unfold m52_4 at h
  try simp -implicitDefEqProofs only [go_sem, Nat.reduceLT, Nat.reduceAdd, Nat.reduceSub, Nat.reduceMul, Nat.reduceEqDiff, Nat.reduceBEq, Nat.reduceLeDiff, Int.reduceToNat, Int.reduceLT, Int.reduceLE, Int.reduceEq, reduceCtorEq, ↓reduceIte, X52_4, k52_4]
  cases b50 : (ltI s43 p18 : Bool)
  · replace h := br_f b50 h
    obtain ⟨g59, h⟩ := ck_some h
    try simp -implicitDefEqProofs only [go_sem, Nat.reduceLT, Nat.reduceAdd, Nat.reduceSub, Nat.reduceMul, Nat.reduceEqDiff, Nat.reduceBEq, Nat.reduceLeDiff, Int.reduceToNat, Int.reduceLT, Int.reduceLE, Int.reduceEq, reduceCtorEq, ↓reduceIte] at g59
    obtain ⟨r62, q60, h⟩ := bnd_some h
    have w61 := e89 (a2.take s43.toNat) x45 r62 q60
    try simp -implicitDefEqProofs only [go_sem, Nat.reduceLT, Nat.reduceAdd, Nat.reduceSub, Nat.reduceMul, Nat.reduceEqDiff, Nat.reduceBEq, Nat.reduceLeDiff, Int.reduceToNat, Int.reduceLT, Int.reduceLE, Int.reduceEq, reduceCtorEq, ↓reduceIte] at w61
    cases h
    simp -implicitDefEqProofs only [go_sem, Nat.reduceLT, Nat.reduceAdd, Nat.reduceSub, Nat.reduceMul, Nat.reduceEqDiff, Nat.reduceBEq, Nat.reduceLeDiff, Int.reduceToNat, Int.reduceLT, Int.reduceLE, Int.reduceEq, reduceCtorEq, ↓reduceIte, X52_4, k52_4, b50, g59, w61]
  · replace h := br_t b50 h
    obtain ⟨r53, q51, h⟩ := bnd_some h
    have w52 := e51 x45 1 (↑a0.ranked.length : Int) r53 q51
    try simp -implicitDefEqProofs only [go_sem, Nat.reduceLT, Nat.reduceAdd, Nat.reduceSub, Nat.reduceMul, Nat.reduceEqDiff, Nat.reduceBEq, Nat.reduceLeDiff, Int.reduceToNat, Int.reduceLT, Int.reduceLE, Int.reduceEq, reduceCtorEq, ↓reduceIte] at w52
    try simp -implicitDefEqProofs only [go_sem, Nat.reduceLT, Nat.reduceAdd, Nat.reduceSub, Nat.reduceMul, Nat.reduceEqDiff, Nat.reduceBEq, Nat.reduceLeDiff, Int.reduceToNat, Int.reduceLT, Int.reduceLE, Int.reduceEq, reduceCtorEq, ↓reduceIte, X52_4, k52_4, b50, w52]
    cases b54 : (r53 : Bool)
    · replace h := br_f b54 h
      cases h
      simp -implicitDefEqProofs only [go_sem, Nat.reduceLT, Nat.reduceAdd, Nat.reduceSub, Nat.reduceMul, Nat.reduceEqDiff, Nat.reduceBEq, Nat.reduceLeDiff, Int.reduceToNat, Int.reduceLT, Int.reduceLE, Int.reduceEq, reduceCtorEq, ↓reduceIte, X52_4, k52_4, b50, w52, b54]
    · replace h := br_t b54 h
      obtain ⟨g55, h⟩ := ck_some h
      try simp -implicitDefEqProofs only [go_sem, Nat.reduceLT, Nat.reduceAdd, Nat.reduceSub, Nat.reduceMul, Nat.reduceEqDiff, Nat.reduceBEq, Nat.reduceLeDiff, Int.reduceToNat, Int.reduceLT, Int.reduceLE, Int.reduceEq, reduceCtorEq, ↓reduceIte] at g55
      obtain ⟨r58, q56, h⟩ := bnd_some h
      have w57 := e89 (a2.take s43.toNat) x45 r58 q56
      try simp -implicitDefEqProofs only [go_sem, Nat.reduceLT, Nat.reduceAdd, Nat.reduceSub, Nat.reduceMul, Nat.reduceEqDiff, Nat.reduceBEq, Nat.reduceLeDiff, Int.reduceToNat, Int.reduceLT, Int.reduceLE, Int.reduceEq, reduceCtorEq, ↓reduceIte] at w57
      cases h
      simp -implicitDefEqProofs only [go_sem, Nat.reduceLT, Nat.reduceAdd, Nat.reduceSub, Nat.reduceMul, Nat.reduceEqDiff, Nat.reduceBEq, Nat.reduceLeDiff, Int.reduceToNat, Int.reduceLT, Int.reduceLE, Int.reduceEq, reduceCtorEq, ↓reduceIte, X52_4, k52_4, b50, w52, b54, g55, w57]
noncomputable def X52_2 (p18 : Int) (a2 : (List Int)) (p19 : Int) (a0 : Spp) (o : (Unit ⊕ Unit)) : Ex × Fr × St :=
  match o with
  | .inl o => (.exit 0, frOf 69 (upd (upd (upd anyF 3 (.ptr 0 0 0)) 5 (.ptr 1 0 0)) 7 (.int .i64 p18)), [some ⟨.box, 1, [[.ts .imm 1 (a0.ranked.map (encLLInt .imm))]]⟩, some ⟨.box, 1, [[.ts .imm 1 (a2.map encInt)]]⟩])
  | .inr o => (.ret, frOf 69 (upd anyF 6 (.bool false)), [])
noncomputable def E52_2 (p18 : Int) (a2 : (List Int)) (p19 : Int) (a0 : Spp) (s : Int) : Fr × St := (frOf 69 (upd (upd (upd (upd (upd (upd anyF 3 (.ptr 0 0 0)) 5 (.ptr 1 0 0)) 7 (.int .i64 p18)) 29 (.ts .imm 1 (a2.map encInt))) 30 (.int .i64 p19)) 31 (.int .i64 s)), [some ⟨.box, 1, [[.ts .imm 1 (a0.ranked.map (encLLInt .imm))]]⟩, some ⟨.box, 1, [[.ts .imm 1 (a2.map encInt)]]⟩])
theorem b52_2 (p18 : Int) (a2 : (List Int)) (p19 : Int) (a0 : Spp) (s : Int) (o : Ctl Int (Unit ⊕ Unit)) (h : m52_2b p18 a2 p19 a0 s = some o) : evCL T 0 k52_2b (E52_2 p18 a2 p19 a0 s).1 (E52_2 p18 a2 p19 a0 s).2 = some (ctlX (E52_2 p18 a2 p19 a0) (X52_2 p18 a2 p19 a0) o) := by
  unfold m52_2b at h
  revert h
  generalize s = s43
  intro h
  try simp -implicitDefEqProofs only [go_sem, Nat.reduceLT, Nat.reduceAdd, Nat.reduceSub, Nat.reduceMul, Nat.reduceEqDiff, Nat.reduceBEq, Nat.reduceLeDiff, Int.reduceToNat, Int.reduceLT, Int.reduceLE, Int.reduceEq, reduceCtorEq, ↓reduceIte, E52_2, X52_2, k52_2b]
  cases b44 : (ltI s43 p19 : Bool)
  · replace h := br_f b44 h
    cases h
    simp -implicitDefEqProofs only [go_sem, Nat.reduceLT, Nat.reduceAdd, Nat.reduceSub, Nat.reduceMul, Nat.reduceEqDiff, Nat.reduceBEq, Nat.reduceLeDiff, Int.reduceToNat, Int.reduceLT, Int.reduceLE, Int.reduceEq, reduceCtorEq, ↓reduceIte, E52_2, X52_2, k52_2b, b44]
  · replace h := br_t b44 h
    obtain ⟨x45, q46, h⟩ := bnd_some h
    obtain ⟨g47, g48, g49⟩ := idx_row encInt q46
    try simp -implicitDefEqProofs only [go_sem, Nat.reduceLT, Nat.reduceAdd, Nat.reduceSub, Nat.reduceMul, Nat.reduceEqDiff, Nat.reduceBEq, Nat.reduceLeDiff, Int.reduceToNat, Int.reduceLT, Int.reduceLE, Int.reduceEq, reduceCtorEq, ↓reduceIte] at g48
    try simp -implicitDefEqProofs only [go_sem, Nat.reduceLT, Nat.reduceAdd, Nat.reduceSub, Nat.reduceMul, Nat.reduceEqDiff, Nat.reduceBEq, Nat.reduceLeDiff, Int.reduceToNat, Int.reduceLT, Int.reduceLE, Int.reduceEq, reduceCtorEq, ↓reduceIte] at g49
    obtain ⟨v65, q63, h⟩ := bnd_some h
    have w64 := e52_4 p18 s43 x45 a2 p19 a0 v65 q63
    simp only [X52_4] at w64
    try simp -implicitDefEqProofs only [go_sem, Nat.reduceLT, Nat.reduceAdd, Nat.reduceSub, Nat.reduceMul, Nat.reduceEqDiff, Nat.reduceBEq, Nat.reduceLeDiff, Int.reduceToNat, Int.reduceLT, Int.reduceLE, Int.reduceEq, reduceCtorEq, ↓reduceIte] at w64
    try simp -implicitDefEqProofs only [go_sem, Nat.reduceLT, Nat.reduceAdd, Nat.reduceSub, Nat.reduceMul, Nat.reduceEqDiff, Nat.reduceBEq, Nat.reduceLeDiff, Int.reduceToNat, Int.reduceLT, Int.reduceLE, Int.reduceEq, reduceCtorEq, ↓reduceIte, E52_2, X52_2, k52_2b, b44, g47, g48, g49, w64]
    cases b66 : (v65 : Bool)
    · replace h := br_f b66 h
      cases h
      simp -implicitDefEqProofs only [go_sem, Nat.reduceLT, Nat.reduceAdd, Nat.reduceSub, Nat.reduceMul, Nat.reduceEqDiff, Nat.reduceBEq, Nat.reduceLeDiff, Int.reduceToNat, Int.reduceLT, Int.reduceLE, Int.reduceEq, reduceCtorEq, ↓reduceIte, E52_2, X52_2, k52_2b, b44, g47, g48, g49, w64, b66]
    · replace h := br_t b66 h
      cases h
      simp -implicitDefEqProofs only [go_sem, Nat.reduceLT, Nat.reduceAdd, Nat.reduceSub, Nat.reduceMul, Nat.reduceEqDiff, Nat.reduceBEq, Nat.reduceLeDiff, Int.reduceToNat, Int.reduceLT, Int.reduceLE, Int.reduceEq, reduceCtorEq, ↓reduceIte, E52_2, X52_2, k52_2b, b44, g47, g48, g49, w64, b66]
theorem e52_2 (p18 : Int) (a2 : (List Int)) (p19 : Int) (a0 : Spp) (s : Int) (o : (Unit ⊕ Unit)) (h : loopP (m52_2b p18 a2 p19 a0) s = some o) : evCL T 0 (.loop k52_2b) (E52_2 p18 a2 p19 a0 s).1 (E52_2 p18 a2 p19 a0 s).2 = some (X52_2 p18 a2 p19 a0 o) :=
  loop_walk (E := E52_2 p18 a2 p19 a0) (X := X52_2 p18 a2 p19 a0) (by intro b; rcases b with b | b <;> (simp only [X52_2]; nofun)) (b52_2 p18 a2 p19 a0) s o h
noncomputable def X52_5 (p69 : Int) (a0 : Spp) (a2 : (List Int)) (o : Bool) : Ex × Fr × St :=
  (.normal, frOf 69 (upd anyF 6 (.bool o)), [])
theorem e52_5 (p69 : Int) (a0 : Spp) (a2 : (List Int)) (o : Bool) (h : m52_5 p69 a0 a2 = some o) : evCL T 0 k52_5 (frOf 69 (upd (upd (upd anyF 3 (.ptr 0 0 0)) 5 (.ptr 1 0 0)) 7 (.int .i64 p69))) [some ⟨.box, 1, [[.ts .imm 1 (a0.ranked.map (encLLInt .imm))]]⟩, some ⟨.box, 1, [[.ts .imm 1 (a2.map encInt)]]⟩] = some (X52_5 p69 a0 a2 o) := by
  unfold m52_5 at h
  try simp -implicitDefEqProofs only [go_sem, Nat.reduceLT, Nat.reduceAdd, Nat.reduceSub, Nat.reduceMul, Nat.reduceEqDiff, Nat.reduceBEq, Nat.reduceLeDiff, Int.reduceToNat, Int.reduceLT, Int.reduceLE, Int.reduceEq, reduceCtorEq, ↓reduceIte, X52_5, k52_5]
  cases b70 : (eqI p69 1 : Bool)
  · replace h := br_f b70 h
    obtain ⟨x71, q72, h⟩ := bnd_some h
    obtain ⟨g73, g74, g75⟩ := idx_row encInt q72
    try simp -implicitDefEqProofs only [go_sem, Nat.reduceLT, Nat.reduceAdd, Nat.reduceSub, Nat.reduceMul, Nat.reduceEqDiff, Nat.reduceBEq, Nat.reduceLeDiff, Int.reduceToNat, Int.reduceLT, Int.reduceLE, Int.reduceEq, reduceCtorEq, ↓reduceIte] at g74
    try simp -implicitDefEqProofs only [go_sem, Nat.reduceLT, Nat.reduceAdd, Nat.reduceSub, Nat.reduceMul, Nat.reduceEqDiff, Nat.reduceBEq, Nat.reduceLeDiff, Int.reduceToNat, Int.reduceLT, Int.reduceLE, Int.reduceEq, reduceCtorEq, ↓reduceIte] at g75
    obtain ⟨x76, q77, h⟩ := bnd_some h
    obtain ⟨g78, g79, g80⟩ := idx_row (encLLInt .imm) q77
    try simp -implicitDefEqProofs only [go_sem, Nat.reduceLT, Nat.reduceAdd, Nat.reduceSub, Nat.reduceMul, Nat.reduceEqDiff, Nat.reduceBEq, Nat.reduceLeDiff, Int.reduceToNat, Int.reduceLT, Int.reduceLE, Int.reduceEq, reduceCtorEq, ↓reduceIte] at g79
    try simp -implicitDefEqProofs only [go_sem, Nat.reduceLT, Nat.reduceAdd, Nat.reduceSub, Nat.reduceMul, Nat.reduceEqDiff, Nat.reduceBEq, Nat.reduceLeDiff, Int.reduceToNat, Int.reduceLT, Int.reduceLE, Int.reduceEq, reduceCtorEq, ↓reduceIte] at g80
    obtain ⟨r83, q81, h⟩ := bnd_some h
    have w82 := e53 x76 (fun y0 => m90 y0 a2) 90 [.tp .imm 1 [[.ts .imm 1 (a2.map encInt)]] 0 0] ⟨⟨fun S => by simp -implicitDefEqProofs only [go_sem, Nat.reduceLT, Nat.reduceAdd, Nat.reduceSub, Nat.reduceMul, Nat.reduceEqDiff, Nat.reduceBEq, Nat.reduceLeDiff, Int.reduceToNat, Int.reduceLT, Int.reduceLE, Int.reduceEq, reduceCtorEq, ↓reduceIte], fun _ _ _ _ _ _ => by simp -implicitDefEqProofs only [go_sem, Nat.reduceLT, Nat.reduceAdd, Nat.reduceSub, Nat.reduceMul, Nat.reduceEqDiff, Nat.reduceBEq, Nat.reduceLeDiff, Int.reduceToNat, Int.reduceLT, Int.reduceLE, Int.reduceEq, reduceCtorEq, ↓reduceIte]⟩, fun y0 r h => ⟨fun S => by simp -implicitDefEqProofs only [go_sem, Nat.reduceLT, Nat.reduceAdd, Nat.reduceSub, Nat.reduceMul, Nat.reduceEqDiff, Nat.reduceBEq, Nat.reduceLeDiff, Int.reduceToNat, Int.reduceLT, Int.reduceLE, Int.reduceEq, reduceCtorEq, ↓reduceIte, e90 y0 a2 r h], fun S => by simp -implicitDefEqProofs only [go_sem, Nat.reduceLT, Nat.reduceAdd, Nat.reduceSub, Nat.reduceMul, Nat.reduceEqDiff, Nat.reduceBEq, Nat.reduceLeDiff, Int.reduceToNat, Int.reduceLT, Int.reduceLE, Int.reduceEq, reduceCtorEq, ↓reduceIte, e90 y0 a2 r h]⟩⟩ r83 q81
    try simp -implicitDefEqProofs only [go_sem, Nat.reduceLT, Nat.reduceAdd, Nat.reduceSub, Nat.reduceMul, Nat.reduceEqDiff, Nat.reduceBEq, Nat.reduceLeDiff, Int.reduceToNat, Int.reduceLT, Int.reduceLE, Int.reduceEq, reduceCtorEq, ↓reduceIte] at w82
    cases h
    simp -implicitDefEqProofs only [go_sem, Nat.reduceLT, Nat.reduceAdd, Nat.reduceSub, Nat.reduceMul, Nat.reduceEqDiff, Nat.reduceBEq, Nat.reduceLeDiff, Int.reduceToNat, Int.reduceLT, Int.reduceLE, Int.reduceEq, reduceCtorEq, ↓reduceIte, X52_5, k52_5, b70, g73, g74, g75, g78, g79, g80, w82]
  · replace h := br_t b70 h
    cases h
    simp -implicitDefEqProofs only [go_sem, Nat.reduceLT, Nat.reduceAdd, Nat.reduceSub, Nat.reduceMul, Nat.reduceEqDiff, Nat.reduceBEq, Nat.reduceLeDiff, Int.reduceToNat, Int.reduceLT, Int.reduceLE, Int.reduceEq, reduceCtorEq, ↓reduceIte, X52_5, k52_5, b70]
theorem e52 (a0 : Spp) (a1 : Int) (a2 : (List Int)) (r : Bool) (h : m52 a0 a1 a2 = some r) : evFL T 52 [.agg [.ts .imm 1 (a0.ranked.map (encLLInt .imm))], .int .i64 a1, .ts .imm 1 (a2.map encInt)] [] = some (.bool r, []) := by
  unfold m52 at h
  rw [evFL_at fn52 (Nat.le_of_ble_eq_true rfl) rfl (.inr rfl) ⟨rfl, rfl⟩]
  obtain ⟨v16, q14, h⟩ := bnd_some h
  have w15 := e52_1 a1 (wsub .i64 (↑a2.length : Int) 1) a0 a2 v16 q14
  simp only [X52_1] at w15
  try simp -implicitDefEqProofs only [go_sem, Nat.reduceLT, Nat.reduceAdd, Nat.reduceSub, Nat.reduceMul, Nat.reduceEqDiff, Nat.reduceBEq, Nat.reduceLeDiff, Int.reduceToNat, Int.reduceLT, Int.reduceLE, Int.reduceEq, reduceCtorEq, ↓reduceIte] at w15
  try simp -implicitDefEqProofs only [go_sem, Nat.reduceLT, Nat.reduceAdd, Nat.reduceSub, Nat.reduceMul, Nat.reduceEqDiff, Nat.reduceBEq, Nat.reduceLeDiff, Int.reduceToNat, Int.reduceLT, Int.reduceLE, Int.reduceEq, reduceCtorEq, ↓reduceIte, i52, c52, w15]
  cases b17 : (v16 : Bool)
  · replace h := br_f b17 h
    try simp -implicitDefEqProofs only [go_sem, Nat.reduceLT, Nat.reduceAdd, Nat.reduceSub, Nat.reduceMul, Nat.reduceEqDiff, Nat.reduceBEq, Nat.reduceLeDiff, Int.reduceToNat, Int.reduceLT, Int.reduceLE, Int.reduceEq, reduceCtorEq, ↓reduceIte, i52, c52, w15, b17]
    obtain ⟨o, q67, h⟩ := bnd_some h
    rcases o with ⟨⟩ | ⟨⟩
    · replace h := selS_l h
      have w68 := e52_2 (wsub .i64 (↑a2.length : Int) 1) a2 (↑a2.length : Int) a0 0 (.inl ()) q67
      simp only [E52_2, X52_2] at w68
      try simp -implicitDefEqProofs only [go_sem, Nat.reduceLT, Nat.reduceAdd, Nat.reduceSub, Nat.reduceMul, Nat.reduceEqDiff, Nat.reduceBEq, Nat.reduceLeDiff, Int.reduceToNat, Int.reduceLT, Int.reduceLE, Int.reduceEq, reduceCtorEq, ↓reduceIte] at w68
      obtain ⟨v86, q84, h⟩ := bnd_some h
      have w85 := e52_5 (wsub .i64 (↑a2.length : Int) 1) a0 a2 v86 q84
      simp only [X52_5] at w85
      try simp -implicitDefEqProofs only [go_sem, Nat.reduceLT, Nat.reduceAdd, Nat.reduceSub, Nat.reduceMul, Nat.reduceEqDiff, Nat.reduceBEq, Nat.reduceLeDiff, Int.reduceToNat, Int.reduceLT, Int.reduceLE, Int.reduceEq, reduceCtorEq, ↓reduceIte] at w85
      cases h
      simp -implicitDefEqProofs only [go_sem, Nat.reduceLT, Nat.reduceAdd, Nat.reduceSub, Nat.reduceMul, Nat.reduceEqDiff, Nat.reduceBEq, Nat.reduceLeDiff, Int.reduceToNat, Int.reduceLT, Int.reduceLE, Int.reduceEq, reduceCtorEq, ↓reduceIte, i52, c52, w15, b17, w68, w85]
    · replace h := selS_r h
      have w68 := e52_2 (wsub .i64 (↑a2.length : Int) 1) a2 (↑a2.length : Int) a0 0 (.inr ()) q67
      simp only [E52_2, X52_2] at w68
      try simp -implicitDefEqProofs only [go_sem, Nat.reduceLT, Nat.reduceAdd, Nat.reduceSub, Nat.reduceMul, Nat.reduceEqDiff, Nat.reduceBEq, Nat.reduceLeDiff, Int.reduceToNat, Int.reduceLT, Int.reduceLE, Int.reduceEq, reduceCtorEq, ↓reduceIte] at w68
      cases h
      simp -implicitDefEqProofs only [go_sem, Nat.reduceLT, Nat.reduceAdd, Nat.reduceSub, Nat.reduceMul, Nat.reduceEqDiff, Nat.reduceBEq, Nat.reduceLeDiff, Int.reduceToNat, Int.reduceLT, Int.reduceLE, Int.reduceEq, reduceCtorEq, ↓reduceIte, i52, c52, w15, b17, w68]
  · replace h := br_t b17 h
    cases h
    simp -implicitDefEqProofs only [go_sem, Nat.reduceLT, Nat.reduceAdd, Nat.reduceSub, Nat.reduceMul, Nat.reduceEqDiff, Nat.reduceBEq, Nat.reduceLeDiff, Int.reduceToNat, Int.reduceLT, Int.reduceLE, Int.reduceEq, reduceCtorEq, ↓reduceIte, i52, c52, w15, b17]
-- f54 impl.GoodSpp$1
theorem call54 (args : List AV) (S : St) : evCall T (evFL T) 54 args S = lendC (evFL T 54) S (lendAll S [[1], [0]] args) := evCall0 fn54 rfl rfl rfl args S
theorem callz54 (args : List AV) (S : St) : evCallFz T (evFL T) 54 args S = lendZ (evFL T 54) S [[0]] (lendAll S [[1], [0]] args) := evCallFz0 fn54 rfl rfl rfl args S
theorem calls54 (args : List AV) (S : St) : evCall (T.at true) (evFL T) 54 args S = lendC (evFL T 54) S (lendAll S [[1], [0]] args) := evCall0 fns54 rfl rfl rfl args S
theorem callsz54 (args : List AV) (S : St) : evCallFz (T.at true) (evFL T) 54 args S = lendZ (evFL T 54) S [[0]] (lendAll S [[1], [0]] args) := evCallFz0 fns54 rfl rfl rfl args S
attribute [go_sem] call54 callz54 calls54 callsz54
theorem e54 (a0 : (List Int)) (a1 : (List Int)) (r : Bool) (h : m54 a0 a1 = some r) : evFL T 54 [.ts .imm 1 (a0.map encInt), .tp .imm 1 [[.ts .imm 1 (a1.map encInt)]] 0 0] [] = some (.bool r, []) := by
  unfold m54 at h
  rw [evFL_at fn54 (Nat.le_of_ble_eq_true rfl) rfl (.inr rfl) ⟨rfl, rfl⟩]
  obtain ⟨r3, q1, h⟩ := bnd_some h
  have w2 := e55 a0 a1 r3 q1
  try simp -implicitDefEqProofs only [go_sem, Nat.reduceLT, Nat.reduceAdd, Nat.reduceSub, Nat.reduceMul, Nat.reduceEqDiff, Nat.reduceBEq, Nat.reduceLeDiff, Int.reduceToNat, Int.reduceLT, Int.reduceLE, Int.reduceEq, reduceCtorEq, ↓reduceIte] at w2
  cases h
  simp -implicitDefEqProofs only [go_sem, Nat.reduceLT, Nat.reduceAdd, Nat.reduceSub, Nat.reduceMul, Nat.reduceEqDiff, Nat.reduceBEq, Nat.reduceLeDiff, Int.reduceToNat, Int.reduceLT, Int.reduceLE, Int.reduceEq, reduceCtorEq, ↓reduceIte, i54, c54, w2]
-- f16 impl.GoodSpp
theorem call16 (args : List AV) (S : St) : evCall T (evFL T) 16 args S = lendC (evFL T 16) S (lendAll S [[1]] args) := evCall0 fn16 rfl rfl rfl args S
theorem callz16 (args : List AV) (S : St) : evCallFz T (evFL T) 16 args S = lendZ (evFL T 16) S [[0]] (lendAll S [[1]] args) := evCallFz0 fn16 rfl rfl rfl args S
theorem calls16 (args : List AV) (S : St) : evCall (T.at true) (evFL T) 16 args S = lendC (evFL T 16) S (lendAll S [[1]] args) := evCall0 fns16 rfl rfl rfl args S
theorem callsz16 (args : List AV) (S : St) : evCallFz (T.at true) (evFL T) 16 args S = lendZ (evFL T 16) S [[0]] (lendAll S [[1]] args) := evCallFz0 fns16 rfl rfl rfl args S
attribute [go_sem] call16 callz16 calls16 callsz16
noncomputable def X16_7 (s55 : Int) (x57 : (List (List Int))) (s83 : Int) (a0 : Spp) (p5 : Int) (p63 : Int) (x85 : (List Int)) (o : Bool) : Ex × Fr × St :=
  (.normal, frOf 50 (upd (upd (upd (upd (upd (upd (upd (upd (upd (upd anyF 1 (.ptr 0 0 0)) 3 (.int .i64 s55)) 4 (.ts .imm 1 (x57.map (encLInt .imm)))) 13 (.ts .imm 1 (a0.ranked.map (encLLInt .imm)))) 14 (.int .i64 p5)) 15 (.int .i64 s55)) 23 (.ts .imm 1 (x57.map (encLInt .imm)))) 24 (.int .i64 p63)) 25 (.int .i64 s83)) 47 (.bool o)), [some ⟨.box, 1, [[.ts .imm 1 (a0.ranked.map (encLLInt .imm))]]⟩])
theorem e16_7 (s55 : Int) (x57 : (List (List Int))) (s83 : Int) (a0 : Spp) (p5 : Int) (p63 : Int) (x85 : (List Int)) (o : Bool) (h : m16_7 s55 x57 s83 a0 x85 = some o) : evCL T 0 k16_7 (frOf 50 (upd (upd (upd (upd (upd (upd (upd (upd (upd (upd (upd anyF 1 (.ptr 0 0 0)) 3 (.int .i64 s55)) 4 (.ts .imm 1 (x57.map (encLInt .imm)))) 5 (.int .i64 s83)) 6 (.ptr 1 0 0)) 13 (.ts .imm 1 (a0.ranked.map (encLLInt .imm)))) 14 (.int .i64 p5)) 15 (.int .i64 s55)) 23 (.ts .imm 1 (x57.map (encLInt .imm)))) 24 (.int .i64 p63)) 25 (.int .i64 s83))) [some ⟨.box, 1, [[.ts .imm 1 (a0.ranked.map (encLLInt .imm))]]⟩, some ⟨.box, 1, [[.ts .imm 1 (x85.map encInt)]]⟩] = some (X16_7 s55 x57 s83 a0 p5 p63 x85 o) := by
  unfold m16_7 at h
  try simp -implicitDefEqProofs only [go_sem, Nat.reduceLT, Nat.reduceAdd, Nat.reduceSub, Nat.reduceMul, Nat.reduceEqDiff, Nat.reduceBEq, Nat.reduceLeDiff, Int.reduceToNat, Int.reduceLT, Int.reduceLE, Int.reduceEq, reduceCtorEq, ↓reduceIte, X16_7, k16_7]
  cases b90 : (ltI 6 (↑x85.length : Int) : Bool)
  · replace h := br_f b90 h
    obtain ⟨r93, q91, h⟩ := bnd_some h
    have w92 := e52 a0 (wadd .i64 s55 1) x85 r93 q91
    try simp -implicitDefEqProofs only [go_sem, Nat.reduceLT, Nat.reduceAdd, Nat.reduceSub, Nat.reduceMul, Nat.reduceEqDiff, Nat.reduceBEq, Nat.reduceLeDiff, Int.reduceToNat, Int.reduceLT, Int.reduceLE, Int.reduceEq, reduceCtorEq, ↓reduceIte] at w92
    try simp -implicitDefEqProofs only [go_sem, Nat.reduceLT, Nat.reduceAdd, Nat.reduceSub, Nat.reduceMul, Nat.reduceEqDiff, Nat.reduceBEq, Nat.reduceLeDiff, Int.reduceToNat, Int.reduceLT, Int.reduceLE, Int.reduceEq, reduceCtorEq, ↓reduceIte, X16_7, k16_7, b90, w92]
    cases b94 : (r93 : Bool)
    · replace h := br_f b94 h
      cases h
      simp -implicitDefEqProofs only [go_sem, Nat.reduceLT, Nat.reduceAdd, Nat.reduceSub, Nat.reduceMul, Nat.reduceEqDiff, Nat.reduceBEq, Nat.reduceLeDiff, Int.reduceToNat, Int.reduceLT, Int.reduceLE, Int.reduceEq, reduceCtorEq, ↓reduceIte, X16_7, k16_7, b90, w92, b94]
    · replace h := br_t b94 h
      obtain ⟨g95, h⟩ := ck_some h
      try simp -implicitDefEqProofs only [go_sem, Nat.reduceLT, Nat.reduceAdd, Nat.reduceSub, Nat.reduceMul, Nat.reduceEqDiff, Nat.reduceBEq, Nat.reduceLeDiff, Int.reduceToNat, Int.reduceLT, Int.reduceLE, Int.reduceEq, reduceCtorEq, ↓reduceIte] at g95
      obtain ⟨r98, q96, h⟩ := bnd_some h
      have w97 := e53 (x57.take s83.toNat) (fun y0 => m54 y0 x85) 54 [.tp .imm 1 [[.ts .imm 1 (x85.map encInt)]] 0 0] ⟨⟨fun S => by simp -implicitDefEqProofs only [go_sem, Nat.reduceLT, Nat.reduceAdd, Nat.reduceSub, Nat.reduceMul, Nat.reduceEqDiff, Nat.reduceBEq, Nat.reduceLeDiff, Int.reduceToNat, Int.reduceLT, Int.reduceLE, Int.reduceEq, reduceCtorEq, ↓reduceIte], fun _ _ _ _ _ _ => by simp -implicitDefEqProofs only [go_sem, Nat.reduceLT, Nat.reduceAdd, Nat.reduceSub, Nat.reduceMul, Nat.reduceEqDiff, Nat.reduceBEq, Nat.reduceLeDiff, Int.reduceToNat, Int.reduceLT, Int.reduceLE, Int.reduceEq, reduceCtorEq, ↓reduceIte]⟩, fun y0 r h => ⟨fun S => by simp -implicitDefEqProofs only [go_sem, Nat.reduceLT, Nat.reduceAdd, Nat.reduceSub, Nat.reduceMul, Nat.reduceEqDiff, Nat.reduceBEq, Nat.reduceLeDiff, Int.reduceToNat, Int.reduceLT, Int.reduceLE, Int.reduceEq, reduceCtorEq, ↓reduceIte, e54 y0 x85 r h], fun S => by simp -implicitDefEqProofs only [go_sem, Nat.reduceLT, Nat.reduceAdd, Nat.reduceSub, Nat.reduceMul, Nat.reduceEqDiff, Nat.reduceBEq, Nat.reduceLeDiff, Int.reduceToNat, Int.reduceLT, Int.reduceLE, Int.reduceEq, reduceCtorEq, ↓reduceIte, e54 y0 x85 r h]⟩⟩ r98 q96
      try simp -implicitDefEqProofs only [go_sem, Nat.reduceLT, Nat.reduceAdd, Nat.reduceSub, Nat.reduceMul, Nat.reduceEqDiff, Nat.reduceBEq, Nat.reduceLeDiff, Int.reduceToNat, Int.reduceLT, Int.reduceLE, Int.reduceEq, reduceCtorEq, ↓reduceIte] at w97
      cases h
      simp -implicitDefEqProofs only [go_sem, Nat.reduceLT, Nat.reduceAdd, Nat.reduceSub, Nat.reduceMul, Nat.reduceEqDiff, Nat.reduceBEq, Nat.reduceLeDiff, Int.reduceToNat, Int.reduceLT, Int.reduceLE, Int.reduceEq, reduceCtorEq, ↓reduceIte, X16_7, k16_7, b90, w92, b94, g95, w97]
  · replace h := br_t b90 h
    cases h
    simp -implicitDefEqProofs only [go_sem, Nat.reduceLT, Nat.reduceAdd, Nat.reduceSub, Nat.reduceMul, Nat.reduceEqDiff, Nat.reduceBEq, Nat.reduceLeDiff, Int.reduceToNat, Int.reduceLT, Int.reduceLE, Int.reduceEq, reduceCtorEq, ↓reduceIte, X16_7, k16_7, b90]
noncomputable def X16_5 (s55 : Int) (x57 : (List (List Int))) (a0 : Spp) (p5 : Int) (p63 : Int) (o : (Unit ⊕ Unit)) : Ex × Fr × St :=
  match o with
  | .inl o => (.exit 2, frOf 50 (upd (upd (upd (upd anyF 1 (.ptr 0 0 0)) 13 (.ts .imm 1 (a0.ranked.map (encLLInt .imm)))) 14 (.int .i64 p5)) 15 (.int .i64 s55)), [some ⟨.box, 1, [[.ts .imm 1 (a0.ranked.map (encLLInt .imm))]]⟩])
  | .inr o => (.ret, frOf 50 (upd anyF 2 (.bool false)), [])
noncomputable def E16_5 (s55 : Int) (x57 : (List (List Int))) (a0 : Spp) (p5 : Int) (p63 : Int) (s : Int) : Fr × St := (frOf 50 (upd (upd (upd (upd (upd (upd (upd (upd (upd anyF 1 (.ptr 0 0 0)) 3 (.int .i64 s55)) 4 (.ts .imm 1 (x57.map (encLInt .imm)))) 13 (.ts .imm 1 (a0.ranked.map (encLLInt .imm)))) 14 (.int .i64 p5)) 15 (.int .i64 s55)) 23 (.ts .imm 1 (x57.map (encLInt .imm)))) 24 (.int .i64 p63)) 25 (.int .i64 s)), [some ⟨.box, 1, [[.ts .imm 1 (a0.ranked.map (encLLInt .imm))]]⟩])
theorem b16_5 (s55 : Int) (x57 : (List (List Int))) (a0 : Spp) (p5 : Int) (p63 : Int) (s : Int) (o : Ctl Int (Unit ⊕ Unit)) (h : m16_5b s55 x57 a0 p63 s = some o) : evCL T 0 k16_5b (E16_5 s55 x57 a0 p5 p63 s).1 (E16_5 s55 x57 a0 p5 p63 s).2 = some (ctlX (E16_5 s55 x57 a0 p5 p63) (X16_5 s55 x57 a0 p5 p63) o) := by
  unfold m16_5b at h
  revert h
  generalize s = s83
  intro h
  try simp -implicitDefEqProofs only [go_sem, Nat.reduceLT, Nat.reduceAdd, Nat.reduceSub, Nat.reduceMul, Nat.reduceEqDiff, Nat.reduceBEq, Nat.reduceLeDiff, Int.reduceToNat, Int.reduceLT, Int.reduceLE, Int.reduceEq, reduceCtorEq, ↓reduceIte, E16_5, X16_5, k16_5b]
  cases b84 : (ltI s83 p63 : Bool)
  · replace h := br_f b84 h
    cases h
    simp -implicitDefEqProofs only [go_sem, Nat.reduceLT, Nat.reduceAdd, Nat.reduceSub, Nat.reduceMul, Nat.reduceEqDiff, Nat.reduceBEq, Nat.reduceLeDiff, Int.reduceToNat, Int.reduceLT, Int.reduceLE, Int.reduceEq, reduceCtorEq, ↓reduceIte, E16_5, X16_5, k16_5b, b84]
  · replace h := br_t b84 h
    obtain ⟨x85, q86, h⟩ := bnd_some h
    obtain ⟨g87, g88, g89⟩ := idx_row (encLInt .imm) q86
    try simp -implicitDefEqProofs only [go_sem, Nat.reduceLT, Nat.reduceAdd, Nat.reduceSub, Nat.reduceMul, Nat.reduceEqDiff, Nat.reduceBEq, Nat.reduceLeDiff, Int.reduceToNat, Int.reduceLT, Int.reduceLE, Int.reduceEq, reduceCtorEq, ↓reduceIte] at g88
    try simp -implicitDefEqProofs only [go_sem, Nat.reduceLT, Nat.reduceAdd, Nat.reduceSub, Nat.reduceMul, Nat.reduceEqDiff, Nat.reduceBEq, Nat.reduceLeDiff, Int.reduceToNat, Int.reduceLT, Int.reduceLE, Int.reduceEq, reduceCtorEq, ↓reduceIte] at g89
    obtain ⟨v101, q99, h⟩ := bnd_some h
    have w100 := e16_7 s55 x57 s83 a0 p5 p63 x85 v101 q99
    simp only [X16_7] at w100
    try simp -implicitDefEqProofs only [go_sem, Nat.reduceLT, Nat.reduceAdd, Nat.reduceSub, Nat.reduceMul, Nat.reduceEqDiff, Nat.reduceBEq, Nat.reduceLeDiff, Int.reduceToNat, Int.reduceLT, Int.reduceLE, Int.reduceEq, reduceCtorEq, ↓reduceIte] at w100
    try simp -implicitDefEqProofs only [go_sem, Nat.reduceLT, Nat.reduceAdd, Nat.reduceSub, Nat.reduceMul, Nat.reduceEqDiff, Nat.reduceBEq, Nat.reduceLeDiff, Int.reduceToNat, Int.reduceLT, Int.reduceLE, Int.reduceEq, reduceCtorEq, ↓reduceIte, E16_5, X16_5, k16_5b, b84, g87, g88, g89, w100]
    cases b102 : (v101 : Bool)
    · replace h := br_f b102 h
      cases h
      simp -implicitDefEqProofs only [go_sem, Nat.reduceLT, Nat.reduceAdd, Nat.reduceSub, Nat.reduceMul, Nat.reduceEqDiff, Nat.reduceBEq, Nat.reduceLeDiff, Int.reduceToNat, Int.reduceLT, Int.reduceLE, Int.reduceEq, reduceCtorEq, ↓reduceIte, E16_5, X16_5, k16_5b, b84, g87, g88, g89, w100, b102]
    · replace h := br_t b102 h
      cases h
      simp -implicitDefEqProofs only [go_sem, Nat.reduceLT, Nat.reduceAdd, Nat.reduceSub, Nat.reduceMul, Nat.reduceEqDiff, Nat.reduceBEq, Nat.reduceLeDiff, Int.reduceToNat, Int.reduceLT, Int.reduceLE, Int.reduceEq, reduceCtorEq, ↓reduceIte, E16_5, X16_5, k16_5b, b84, g87, g88, g89, w100, b102]
theorem e16_5 (s55 : Int) (x57 : (List (List Int))) (a0 : Spp) (p5 : Int) (p63 : Int) (s : Int) (o : (Unit ⊕ Unit)) (h : loopP (m16_5b s55 x57 a0 p63) s = some o) : evCL T 0 (.loop k16_5b) (E16_5 s55 x57 a0 p5 p63 s).1 (E16_5 s55 x57 a0 p5 p63 s).2 = some (X16_5 s55 x57 a0 p5 p63 o) :=
  loop_walk (E := E16_5 s55 x57 a0 p5 p63) (X := X16_5 s55 x57 a0 p5 p63) (by intro b; rcases b with b | b <;> (simp only [X16_5]; nofun)) (b16_5 s55 x57 a0 p5 p63) s o h
noncomputable def X16_1 (a0 : Spp) (p5 : Int) (o : (Unit ⊕ Unit)) : Ex × Fr × St :=
  match o with
  | .inl o => (.exit 0, frOf 50 (anyF), [])
  | .inr o => (.ret, frOf 50 (upd anyF 2 (.bool false)), [])
noncomputable def E16_1 (a0 : Spp) (p5 : Int) (s : Int) : Fr × St := (frOf 50 (upd (upd (upd (upd anyF 1 (.ptr 0 0 0)) 13 (.ts .imm 1 (a0.ranked.map (encLLInt .imm)))) 14 (.int .i64 p5)) 15 (.int .i64 s)), [some ⟨.box, 1, [[.ts .imm 1 (a0.ranked.map (encLLInt .imm))]]⟩])
theorem b16_1 (a0 : Spp) (p5 : Int) (s : Int) (o : Ctl Int (Unit ⊕ Unit)) (h : m16_1b a0 p5 s = some o) : evCL T 0 k16_1b (E16_1 a0 p5 s).1 (E16_1 a0 p5 s).2 = some (ctlX (E16_1 a0 p5) (X16_1 a0 p5) o) := by
  unfold m16_1b at h
  revert h
  generalize s = s55
  intro h
  try simp -implicitDefEqProofs only [go_sem, Nat.reduceLT, Nat.reduceAdd, Nat.reduceSub, Nat.reduceMul, Nat.reduceEqDiff, Nat.reduceBEq, Nat.reduceLeDiff, Int.reduceToNat, Int.reduceLT, Int.reduceLE, Int.reduceEq, reduceCtorEq, ↓reduceIte, E16_1, X16_1, k16_1b]
  cases b56 : (ltI s55 p5 : Bool)
  · replace h := br_f b56 h
    cases h
    simp -implicitDefEqProofs only [go_sem, Nat.reduceLT, Nat.reduceAdd, Nat.reduceSub, Nat.reduceMul, Nat.reduceEqDiff, Nat.reduceBEq, Nat.reduceLeDiff, Int.reduceToNat, Int.reduceLT, Int.reduceLE, Int.reduceEq, reduceCtorEq, ↓reduceIte, E16_1, X16_1, k16_1b, b56]
  · replace h := br_t b56 h
    obtain ⟨x57, q58, h⟩ := bnd_some h
    obtain ⟨g59, g60, g61⟩ := idx_row (encLLInt .imm) q58
    try simp -implicitDefEqProofs only [go_sem, Nat.reduceLT, Nat.reduceAdd, Nat.reduceSub, Nat.reduceMul, Nat.reduceEqDiff, Nat.reduceBEq, Nat.reduceLeDiff, Int.reduceToNat, Int.reduceLT, Int.reduceLE, Int.reduceEq, reduceCtorEq, ↓reduceIte] at g60
    try simp -implicitDefEqProofs only [go_sem, Nat.reduceLT, Nat.reduceAdd, Nat.reduceSub, Nat.reduceMul, Nat.reduceEqDiff, Nat.reduceBEq, Nat.reduceLeDiff, Int.reduceToNat, Int.reduceLT, Int.reduceLE, Int.reduceEq, reduceCtorEq, ↓reduceIte] at g61
    try simp -implicitDefEqProofs only [go_sem, Nat.reduceLT, Nat.reduceAdd, Nat.reduceSub, Nat.reduceMul, Nat.reduceEqDiff, Nat.reduceBEq, Nat.reduceLeDiff, Int.reduceToNat, Int.reduceLT, Int.reduceLE, Int.reduceEq, reduceCtorEq, ↓reduceIte, E16_1, X16_1, k16_1b, b56, g59, g60, g61]
    cases b62 : (ltI 6 (↑x57.length : Int) : Bool)
    · replace h := br_f b62 h
      try simp -implicitDefEqProofs only [go_sem, Nat.reduceLT, Nat.reduceAdd, Nat.reduceSub, Nat.reduceMul, Nat.reduceEqDiff, Nat.reduceBEq, Nat.reduceLeDiff, Int.reduceToNat, Int.reduceLT, Int.reduceLE, Int.reduceEq, reduceCtorEq, ↓reduceIte, E16_1, X16_1, k16_1b, b56, g59, g60, g61, b62]
      obtain ⟨o, q103, h⟩ := bnd_some h
      rcases o with ⟨⟩ | ⟨⟩
      · replace h := selS_l h
        have w104 := e16_5 s55 x57 a0 p5 (↑x57.length : Int) 0 (.inl ()) q103
        simp only [E16_5, X16_5] at w104
        try simp -implicitDefEqProofs only [go_sem, Nat.reduceLT, Nat.reduceAdd, Nat.reduceSub, Nat.reduceMul, Nat.reduceEqDiff, Nat.reduceBEq, Nat.reduceLeDiff, Int.reduceToNat, Int.reduceLT, Int.reduceLE, Int.reduceEq, reduceCtorEq, ↓reduceIte] at w104
        cases h
        simp -implicitDefEqProofs only [go_sem, Nat.reduceLT, Nat.reduceAdd, Nat.reduceSub, Nat.reduceMul, Nat.reduceEqDiff, Nat.reduceBEq, Nat.reduceLeDiff, Int.reduceToNat, Int.reduceLT, Int.reduceLE, Int.reduceEq, reduceCtorEq, ↓reduceIte, E16_1, X16_1, k16_1b, b56, g59, g60, g61, b62, w104]
      · replace h := selS_r h
        have w104 := e16_5 s55 x57 a0 p5 (↑x57.length : Int) 0 (.inr ()) q103
        simp only [E16_5, X16_5] at w104
        try simp -implicitDefEqProofs only [go_sem, Nat.reduceLT, Nat.reduceAdd, Nat.reduceSub, Nat.reduceMul, Nat.reduceEqDiff, Nat.reduceBEq, Nat.reduceLeDiff, Int.reduceToNat, Int.reduceLT, Int.reduceLE, Int.reduceEq, reduceCtorEq, ↓reduceIte] at w104
        cases h
        simp -implicitDefEqProofs only [go_sem, Nat.reduceLT, Nat.reduceAdd, Nat.reduceSub, Nat.reduceMul, Nat.reduceEqDiff, Nat.reduceBEq, Nat.reduceLeDiff, Int.reduceToNat, Int.reduceLT, Int.reduceLE, Int.reduceEq, reduceCtorEq, ↓reduceIte, E16_1, X16_1, k16_1b, b56, g59, g60, g61, b62, w104]
    · replace h := br_t b62 h
      cases h
      simp -implicitDefEqProofs only [go_sem, Nat.reduceLT, Nat.reduceAdd, Nat.reduceSub, Nat.reduceMul, Nat.reduceEqDiff, Nat.reduceBEq, Nat.reduceLeDiff, Int.reduceToNat, Int.reduceLT, Int.reduceLE, Int.reduceEq, reduceCtorEq, ↓reduceIte, E16_1, X16_1, k16_1b, b56, g59, g60, g61, b62]
theorem e16_1 (a0 : Spp) (p5 : Int) (s : Int) (o : (Unit ⊕ Unit)) (h : loopP (m16_1b a0 p5) s = some o) : evCL T 0 (.loop k16_1b) (E16_1 a0 p5 s).1 (E16_1 a0 p5 s).2 = some (X16_1 a0 p5 o) :=
  loop_walk (E := E16_1 a0 p5) (X := X16_1 a0 p5) (by intro b; rcases b with b | b <;> (simp only [X16_1]; nofun)) (b16_1 a0 p5) s o h
theorem e16 (a0 : Spp) (r : Bool) (h : m16 a0 = some r) : evFL T 16 [.agg [.ts .imm 1 (a0.ranked.map (encLLInt .imm))]] [] = some (.bool r, []) := by
  unfold m16 at h
  rw [evFL_at fn16 (Nat.le_of_ble_eq_true rfl) rfl (.inr rfl) ⟨rfl, rfl⟩]
  obtain ⟨r3, q1, h⟩ := bnd_some h
  have w2 := e51 (↑a0.ranked.length : Int) 1 5 r3 q1
  try simp -implicitDefEqProofs only [go_sem, Nat.reduceLT, Nat.reduceAdd, Nat.reduceSub, Nat.reduceMul, Nat.reduceEqDiff, Nat.reduceBEq, Nat.reduceLeDiff, Int.reduceToNat, Int.reduceLT, Int.reduceLE, Int.reduceEq, reduceCtorEq, ↓reduceIte] at w2
  try simp -implicitDefEqProofs only [go_sem, Nat.reduceLT, Nat.reduceAdd, Nat.reduceSub, Nat.reduceMul, Nat.reduceEqDiff, Nat.reduceBEq, Nat.reduceLeDiff, Int.reduceToNat, Int.reduceLT, Int.reduceLE, Int.reduceEq, reduceCtorEq, ↓reduceIte, i16, c16, w2]
  cases b4 : (r3 : Bool)
  · replace h := br_f b4 h
    cases h
    simp -implicitDefEqProofs only [go_sem, Nat.reduceLT, Nat.reduceAdd, Nat.reduceSub, Nat.reduceMul, Nat.reduceEqDiff, Nat.reduceBEq, Nat.reduceLeDiff, Int.reduceToNat, Int.reduceLT, Int.reduceLE, Int.reduceEq, reduceCtorEq, ↓reduceIte, i16, c16, w2, b4]
  · replace h := br_t b4 h
    try simp -implicitDefEqProofs only [go_sem, Nat.reduceLT, Nat.reduceAdd, Nat.reduceSub, Nat.reduceMul, Nat.reduceEqDiff, Nat.reduceBEq, Nat.reduceLeDiff, Int.reduceToNat, Int.reduceLT, Int.reduceLE, Int.reduceEq, reduceCtorEq, ↓reduceIte, i16, c16, w2, b4]
    obtain ⟨o, q105, h⟩ := bnd_some h
    rcases o with ⟨⟩ | ⟨⟩
    · replace h := selS_l h
      have w106 := e16_1 a0 (↑a0.ranked.length : Int) 0 (.inl ()) q105
      simp only [E16_1, X16_1] at w106
      try simp -implicitDefEqProofs only [go_sem, Nat.reduceLT, Nat.reduceAdd, Nat.reduceSub, Nat.reduceMul, Nat.reduceEqDiff, Nat.reduceBEq, Nat.reduceLeDiff, Int.reduceToNat, Int.reduceLT, Int.reduceLE, Int.reduceEq, reduceCtorEq, ↓reduceIte] at w106
      cases h
      simp -implicitDefEqProofs only [go_sem, Nat.reduceLT, Nat.reduceAdd, Nat.reduceSub, Nat.reduceMul, Nat.reduceEqDiff, Nat.reduceBEq, Nat.reduceLeDiff, Int.reduceToNat, Int.reduceLT, Int.reduceLE, Int.reduceEq, reduceCtorEq, ↓reduceIte, i16, c16, w2, b4, w106]
    · replace h := selS_r h
      have w106 := e16_1 a0 (↑a0.ranked.length : Int) 0 (.inr ()) q105
      simp only [E16_1, X16_1] at w106
      try simp -implicitDefEqProofs only [go_sem, Nat.reduceLT, Nat.reduceAdd, Nat.reduceSub, Nat.reduceMul, Nat.reduceEqDiff, Nat.reduceBEq, Nat.reduceLeDiff, Int.reduceToNat, Int.reduceLT, Int.reduceLE, Int.reduceEq, reduceCtorEq, ↓reduceIte] at w106
      cases h
      simp -implicitDefEqProofs only [go_sem, Nat.reduceLT, Nat.reduceAdd, Nat.reduceSub, Nat.reduceMul, Nat.reduceEqDiff, Nat.reduceBEq, Nat.reduceLeDiff, Int.reduceToNat, Int.reduceLT, Int.reduceLE, Int.reduceEq, reduceCtorEq, ↓reduceIte, i16, c16, w2, b4, w106]
-- f92 impl.bestFor$1
theorem call92 (args : List AV) (S : St) : evCall T (evFL T) 92 args S = lendC (evFL T 92) S (lendAll S [[1], [0], [0]] args) := evCall0 fn92 rfl rfl rfl args S
theorem callz92 (args : List AV) (S : St) : evCallFz T (evFL T) 92 args S = lendZ (evFL T 92) S [[0]] (lendAll S [[1], [0], [0]] args) := evCallFz0 fn92 rfl rfl rfl args S
theorem calls92 (args : List AV) (S : St) : evCall (T.at true) (evFL T) 92 args S = lendC (evFL T 92) S (lendAll S [[1], [0], [0]] args) := evCall0 fns92 rfl rfl rfl args S
theorem callsz92 (args : List AV) (S : St) : evCallFz (T.at true) (evFL T) 92 args S = lendZ (evFL T 92) S [[0]] (lendAll S [[1], [0], [0]] args) := evCallFz0 fns92 rfl rfl rfl args S
attribute [go_sem] call92 callz92 calls92 callsz92
noncomputable def X92_1 (a0 : (List Int)) (a1 : (List Int)) (a2 : Spp) (p7 : Int) (o : Bool) : Ex × Fr × St :=
  (.normal, frOf 34 (upd anyF 4 (.bool o)), [])
theorem e92_1 (a0 : (List Int)) (a1 : (List Int)) (a2 : Spp) (p7 : Int) (o : Bool) (h : m92_1 a0 a1 a2 p7 = some o) : evCL T 0 k92_1 (frOf 34 (upd (upd (upd (upd anyF 0 (.ts .imm 1 (a0.map encInt))) 1 (.tp .imm 1 [[.ts .imm 1 (a1.map encInt)]] 0 0)) 2 (.tp .imm 1 [[.ts .imm 1 (a2.ranked.map (encLLInt .imm))]] 0 0)) 5 (.int .i64 p7))) [] = some (X92_1 a0 a1 a2 p7 o) := by
  unfold m92_1 at h
  obtain ⟨x8, q9, h⟩ := bnd_some h
  obtain ⟨g10, g11, g12⟩ := idx_row encInt q9
  try simp -implicitDefEqProofs only [go_sem, Nat.reduceLT, Nat.reduceAdd, Nat.reduceSub, Nat.reduceMul, Nat.reduceEqDiff, Nat.reduceBEq, Nat.reduceLeDiff, Int.reduceToNat, Int.reduceLT, Int.reduceLE, Int.reduceEq, reduceCtorEq, ↓reduceIte] at g11
  try simp -implicitDefEqProofs only [go_sem, Nat.reduceLT, Nat.reduceAdd, Nat.reduceSub, Nat.reduceMul, Nat.reduceEqDiff, Nat.reduceBEq, Nat.reduceLeDiff, Int.reduceToNat, Int.reduceLT, Int.reduceLE, Int.reduceEq, reduceCtorEq, ↓reduceIte] at g12
  try simp -implicitDefEqProofs only [go_sem, Nat.reduceLT, Nat.reduceAdd, Nat.reduceSub, Nat.reduceMul, Nat.reduceEqDiff, Nat.reduceBEq, Nat.reduceLeDiff, Int.reduceToNat, Int.reduceLT, Int.reduceLE, Int.reduceEq, reduceCtorEq, ↓reduceIte, X92_1, k92_1, g10, g11, g12]
  cases b13 : (leI 0 x8 : Bool)
  · replace h := br_f b13 h
    cases h
    simp -implicitDefEqProofs only [go_sem, Nat.reduceLT, Nat.reduceAdd, Nat.reduceSub, Nat.reduceMul, Nat.reduceEqDiff, Nat.reduceBEq, Nat.reduceLeDiff, Int.reduceToNat, Int.reduceLT, Int.reduceLE, Int.reduceEq, reduceCtorEq, ↓reduceIte, X92_1, k92_1, g10, g11, g12, b13]
  · replace h := br_t b13 h
    obtain ⟨x14, q15, h⟩ := bnd_some h
    obtain ⟨g16, g17, g18⟩ := idx_row (encLLInt .imm) q15
    try simp -implicitDefEqProofs only [go_sem, Nat.reduceLT, Nat.reduceAdd, Nat.reduceSub, Nat.reduceMul, Nat.reduceEqDiff, Nat.reduceBEq, Nat.reduceLeDiff, Int.reduceToNat, Int.reduceLT, Int.reduceLE, Int.reduceEq, reduceCtorEq, ↓reduceIte] at g17
    try simp -implicitDefEqProofs only [go_sem, Nat.reduceLT, Nat.reduceAdd, Nat.reduceSub, Nat.reduceMul, Nat.reduceEqDiff, Nat.reduceBEq, Nat.reduceLeDiff, Int.reduceToNat, Int.reduceLT, Int.reduceLE, Int.reduceEq, reduceCtorEq, ↓reduceIte] at g18
    obtain ⟨x19, q20, h⟩ := bnd_some h
    obtain ⟨g21, g22, g23⟩ := idx_row (encLInt .imm) q20
    try simp -implicitDefEqProofs only [go_sem, Nat.reduceLT, Nat.reduceAdd, Nat.reduceSub, Nat.reduceMul, Nat.reduceEqDiff, Nat.reduceBEq, Nat.reduceLeDiff, Int.reduceToNat, Int.reduceLT, Int.reduceLE, Int.reduceEq, reduceCtorEq, ↓reduceIte] at g22
    try simp -implicitDefEqProofs only [go_sem, Nat.reduceLT, Nat.reduceAdd, Nat.reduceSub, Nat.reduceMul, Nat.reduceEqDiff, Nat.reduceBEq, Nat.reduceLeDiff, Int.reduceToNat, Int.reduceLT, Int.reduceLE, Int.reduceEq, reduceCtorEq, ↓reduceIte] at g23
    obtain ⟨g24, h⟩ := ck_some h
    try simp -implicitDefEqProofs only [go_sem, Nat.reduceLT, Nat.reduceAdd, Nat.reduceSub, Nat.reduceMul, Nat.reduceEqDiff, Nat.reduceBEq, Nat.reduceLeDiff, Int.reduceToNat, Int.reduceLT, Int.reduceLE, Int.reduceEq, reduceCtorEq, ↓reduceIte] at g24
    obtain ⟨r27, q25, h⟩ := bnd_some h
    have w26 := e55 x19 (a0.drop 1) r27 q25
    try simp -implicitDefEqProofs only [go_sem, Nat.reduceLT, Nat.reduceAdd, Nat.reduceSub, Nat.reduceMul, Nat.reduceEqDiff, Nat.reduceBEq, Nat.reduceLeDiff, Int.reduceToNat, Int.reduceLT, Int.reduceLE, Int.reduceEq, reduceCtorEq, ↓reduceIte] at w26
    cases h
    simp -implicitDefEqProofs only [go_sem, Nat.reduceLT, Nat.reduceAdd, Nat.reduceSub, Nat.reduceMul, Nat.reduceEqDiff, Nat.reduceBEq, Nat.reduceLeDiff, Int.reduceToNat, Int.reduceLT, Int.reduceLE, Int.reduceEq, reduceCtorEq, ↓reduceIte, X92_1, k92_1, g10, g11, g12, b13, g16, g17, g18, g21, g22, g23, g24, w26]
theorem e92 (a0 : (List Int)) (a1 : (List Int)) (a2 : Spp) (r : Bool) (h : m92 a0 a1 a2 = some r) : evFL T 92 [.ts .imm 1 (a0.map encInt), .tp .imm 1 [[.ts .imm 1 (a1.map encInt)]] 0 0, .tp .imm 1 [[.ts .imm 1 (a2.ranked.map (encLLInt .imm))]] 0 0] [] = some (.bool r, []) := by
  unfold m92 at h
  rw [evFL_at fn92 (Nat.le_of_ble_eq_true rfl) rfl (.inr rfl) ⟨rfl, rfl⟩]
  try simp -implicitDefEqProofs only [go_sem, Nat.reduceLT, Nat.reduceAdd, Nat.reduceSub, Nat.reduceMul, Nat.reduceEqDiff, Nat.reduceBEq, Nat.reduceLeDiff, Int.reduceToNat, Int.reduceLT, Int.reduceLE, Int.reduceEq, reduceCtorEq, ↓reduceIte, i92, c92]
  cases b1 : (eqI (↑a0.length : Int) 2 : Bool)
  · replace h := br_f b1 h
    obtain ⟨x2, q3, h⟩ := bnd_some h
    obtain ⟨g4, g5, g6⟩ := idx_row encInt q3
    try simp -implicitDefEqProofs only [go_sem, Nat.reduceLT, Nat.reduceAdd, Nat.reduceSub, Nat.reduceMul, Nat.reduceEqDiff, Nat.reduceBEq, Nat.reduceLeDiff, Int.reduceToNat, Int.reduceLT, Int.reduceLE, Int.reduceEq, reduceCtorEq, ↓reduceIte] at g5
    try simp -implicitDefEqProofs only [go_sem, Nat.reduceLT, Nat.reduceAdd, Nat.reduceSub, Nat.reduceMul, Nat.reduceEqDiff, Nat.reduceBEq, Nat.reduceLeDiff, Int.reduceToNat, Int.reduceLT, Int.reduceLE, Int.reduceEq, reduceCtorEq, ↓reduceIte] at g6
    obtain ⟨v30, q28, h⟩ := bnd_some h
    have w29 := e92_1 a0 a1 a2 (wsub .i64 x2 1) v30 q28
    simp only [X92_1] at w29
    try simp -implicitDefEqProofs only [go_sem, Nat.reduceLT, Nat.reduceAdd, Nat.reduceSub, Nat.reduceMul, Nat.reduceEqDiff, Nat.reduceBEq, Nat.reduceLeDiff, Int.reduceToNat, Int.reduceLT, Int.reduceLE, Int.reduceEq, reduceCtorEq, ↓reduceIte] at w29
    cases h
    simp -implicitDefEqProofs only [go_sem, Nat.reduceLT, Nat.reduceAdd, Nat.reduceSub, Nat.reduceMul, Nat.reduceEqDiff, Nat.reduceBEq, Nat.reduceLeDiff, Int.reduceToNat, Int.reduceLT, Int.reduceLE, Int.reduceEq, reduceCtorEq, ↓reduceIte, i92, c92, b1, g4, g5, g6, w29]
  · replace h := br_t b1 h
    cases h
    simp -implicitDefEqProofs only [go_sem, Nat.reduceLT, Nat.reduceAdd, Nat.reduceSub, Nat.reduceMul, Nat.reduceEqDiff, Nat.reduceBEq, Nat.reduceLeDiff, Int.reduceToNat, Int.reduceLT, Int.reduceLE, Int.reduceEq, reduceCtorEq, ↓reduceIte, i92, c92, b1]
-- f60 impl.bestFor
theorem call60 (args : List AV) (S : St) : evCall T (evFL T) 60 args S = lendC (evFL T 60) S (lendAll S [[1], [1], [0]] args) := evCall0 fn60 rfl rfl rfl args S
theorem callz60 (args : List AV) (S : St) : evCallFz T (evFL T) 60 args S = lendZ (evFL T 60) S [[0]] (lendAll S [[1], [1], [0]] args) := evCallFz0 fn60 rfl rfl rfl args S
theorem calls60 (args : List AV) (S : St) : evCall (T.at true) (evFL T) 60 args S = lendC (evFL T 60) S (lendAll S [[1], [1], [0]] args) := evCall0 fns60 rfl rfl rfl args S
theorem callsz60 (args : List AV) (S : St) : evCallFz (T.at true) (evFL T) 60 args S = lendZ (evFL T 60) S [[0]] (lendAll S [[1], [1], [0]] args) := evCallFz0 fns60 rfl rfl rfl args S
attribute [go_sem] call60 callz60 calls60 callsz60
theorem e60 (a0 : Spp) (a1 : (List Int)) (a2 : Int) (r : Int) (h : m60 a0 a1 a2 = some r) : evFL T 60 [.agg [.ts .imm 1 (a0.ranked.map (encLLInt .imm))], .ts .imm 1 (a1.map encInt), .int .i64 a2] [] = some (.int .i64 r, []) := by
  unfold m60 at h
  rw [evFL_at fn60 (Nat.le_of_ble_eq_true rfl) rfl (.inr rfl) ⟨rfl, rfl⟩]
  obtain ⟨x1, q2, h⟩ := bnd_some h
  obtain ⟨g3, g4, g5⟩ := idx_row (encLLInt .imm) q2
  try simp -implicitDefEqProofs only [go_sem, Nat.reduceLT, Nat.reduceAdd, Nat.reduceSub, Nat.reduceMul, Nat.reduceEqDiff, Nat.reduceBEq, Nat.reduceLeDiff, Int.reduceToNat, Int.reduceLT, Int.reduceLE, Int.reduceEq, reduceCtorEq, ↓reduceIte] at g4
  try simp -implicitDefEqProofs only [go_sem, Nat.reduceLT, Nat.reduceAdd, Nat.reduceSub, Nat.reduceMul, Nat.reduceEqDiff, Nat.reduceBEq, Nat.reduceLeDiff, Int.reduceToNat, Int.reduceLT, Int.reduceLE, Int.reduceEq, reduceCtorEq, ↓reduceIte] at g5
  obtain ⟨r8, q6, h⟩ := bnd_some h
  have w7 := e91 x1 (fun y0 => m92 y0 a1 a0) 92 [.tp .imm 1 [[.ts .imm 1 (a1.map encInt)]] 0 0, .tp .imm 1 [[.ts .imm 1 (a0.ranked.map (encLLInt .imm))]] 0 0] ⟨⟨fun S => by simp -implicitDefEqProofs only [go_sem, Nat.reduceLT, Nat.reduceAdd, Nat.reduceSub, Nat.reduceMul, Nat.reduceEqDiff, Nat.reduceBEq, Nat.reduceLeDiff, Int.reduceToNat, Int.reduceLT, Int.reduceLE, Int.reduceEq, reduceCtorEq, ↓reduceIte], fun _ _ _ _ _ _ => by simp -implicitDefEqProofs only [go_sem, Nat.reduceLT, Nat.reduceAdd, Nat.reduceSub, Nat.reduceMul, Nat.reduceEqDiff, Nat.reduceBEq, Nat.reduceLeDiff, Int.reduceToNat, Int.reduceLT, Int.reduceLE, Int.reduceEq, reduceCtorEq, ↓reduceIte]⟩, fun y0 r h => ⟨fun S => by simp -implicitDefEqProofs only [go_sem, Nat.reduceLT, Nat.reduceAdd, Nat.reduceSub, Nat.reduceMul, Nat.reduceEqDiff, Nat.reduceBEq, Nat.reduceLeDiff, Int.reduceToNat, Int.reduceLT, Int.reduceLE, Int.reduceEq, reduceCtorEq, ↓reduceIte, e92 y0 a1 a0 r h], fun S => by simp -implicitDefEqProofs only [go_sem, Nat.reduceLT, Nat.reduceAdd, Nat.reduceSub, Nat.reduceMul, Nat.reduceEqDiff, Nat.reduceBEq, Nat.reduceLeDiff, Int.reduceToNat, Int.reduceLT, Int.reduceLE, Int.reduceEq, reduceCtorEq, ↓reduceIte, e92 y0 a1 a0 r h]⟩⟩ r8 q6
  try simp -implicitDefEqProofs only [go_sem, Nat.reduceLT, Nat.reduceAdd, Nat.reduceSub, Nat.reduceMul, Nat.reduceEqDiff, Nat.reduceBEq, Nat.reduceLeDiff, Int.reduceToNat, Int.reduceLT, Int.reduceLE, Int.reduceEq, reduceCtorEq, ↓reduceIte] at w7
  cases h
  simp -implicitDefEqProofs only [go_sem, Nat.reduceLT, Nat.reduceAdd, Nat.reduceSub, Nat.reduceMul, Nat.reduceEqDiff, Nat.reduceBEq, Nat.reduceLeDiff, Int.reduceToNat, Int.reduceLT, Int.reduceLE, Int.reduceEq, reduceCtorEq, ↓reduceIte, i60, c60, g3, g4, g5, w7]
-- f62 impl.isStable
theorem call62 (args : List AV) (S : St) : evCall T (evFL T) 62 args S = lendC (evFL T 62) S (lendAll S [[1], [1]] args) := evCall0 fn62 rfl rfl rfl args S
theorem callz62 (args : List AV) (S : St) : evCallFz T (evFL T) 62 args S = lendZ (evFL T 62) S [[0]] (lendAll S [[1], [1]] args) := evCallFz0 fn62 rfl rfl rfl args S
theorem calls62 (args : List AV) (S : St) : evCall (T.at true) (evFL T) 62 args S = lendC (evFL T 62) S (lendAll S [[1], [1]] args) := evCall0 fns62 rfl rfl rfl args S
theorem callsz62 (args : List AV) (S : St) : evCallFz (T.at true) (evFL T) 62 args S = lendZ (evFL T 62) S [[0]] (lendAll S [[1], [1]] args) := evCallFz0 fns62 rfl rfl rfl args S
attribute [go_sem] call62 callz62 calls62 callsz62
noncomputable def X62_1 (a1 : (List Int)) (p1 : Int) (a0 : Spp) (o : (Unit ⊕ Unit)) : Ex × Fr × St :=
  match o with
  | .inl o => (.exit 0, frOf 22 (anyF), [])
  | .inr o => (.ret, frOf 22 (upd anyF 4 (.bool false)), [])
noncomputable def E62_1 (a1 : (List Int)) (p1 : Int) (a0 : Spp) (s : Int) : Fr × St := (frOf 22 (upd (upd (upd (upd (upd anyF 1 (.ts .imm 1 (a1.map encInt))) 2 (.ptr 0 0 0)) 7 (.ts .imm 1 (a1.map encInt))) 8 (.int .i64 p1)) 9 (.int .i64 s)), [some ⟨.box, 1, [[.ts .imm 1 (a0.ranked.map (encLLInt .imm))]]⟩])
theorem b62_1 (a1 : (List Int)) (p1 : Int) (a0 : Spp) (s : Int) (o : Ctl Int (Unit ⊕ Unit)) (h : m62_1b a1 p1 a0 s = some o) : evCL T 0 k62_1b (E62_1 a1 p1 a0 s).1 (E62_1 a1 p1 a0 s).2 = some (ctlX (E62_1 a1 p1 a0) (X62_1 a1 p1 a0) o) := by
  unfold m62_1b at h
  revert h
  generalize s = s12
  intro h
  try simp -implicitDefEqProofs only [go_sem, Nat.reduceLT, Nat.reduceAdd, Nat.reduceSub, Nat.reduceMul, Nat.reduceEqDiff, Nat.reduceBEq, Nat.reduceLeDiff, Int.reduceToNat, Int.reduceLT, Int.reduceLE, Int.reduceEq, reduceCtorEq, ↓reduceIte, E62_1, X62_1, k62_1b]
  cases b13 : (ltI s12 p1 : Bool)
  · replace h := br_f b13 h
    cases h
    simp -implicitDefEqProofs only [go_sem, Nat.reduceLT, Nat.reduceAdd, Nat.reduceSub, Nat.reduceMul, Nat.reduceEqDiff, Nat.reduceBEq, Nat.reduceLeDiff, Int.reduceToNat, Int.reduceLT, Int.reduceLE, Int.reduceEq, reduceCtorEq, ↓reduceIte, E62_1, X62_1, k62_1b, b13]
  · replace h := br_t b13 h
    obtain ⟨x14, q15, h⟩ := bnd_some h
    obtain ⟨g16, g17, g18⟩ := idx_row encInt q15
    try simp -implicitDefEqProofs only [go_sem, Nat.reduceLT, Nat.reduceAdd, Nat.reduceSub, Nat.reduceMul, Nat.reduceEqDiff, Nat.reduceBEq, Nat.reduceLeDiff, Int.reduceToNat, Int.reduceLT, Int.reduceLE, Int.reduceEq, reduceCtorEq, ↓reduceIte] at g17
    try simp -implicitDefEqProofs only [go_sem, Nat.reduceLT, Nat.reduceAdd, Nat.reduceSub, Nat.reduceMul, Nat.reduceEqDiff, Nat.reduceBEq, Nat.reduceLeDiff, Int.reduceToNat, Int.reduceLT, Int.reduceLE, Int.reduceEq, reduceCtorEq, ↓reduceIte] at g18
    obtain ⟨r21, q19, h⟩ := bnd_some h
    have w20 := e60 a0 a1 (wadd .i64 s12 1) r21 q19
    try simp -implicitDefEqProofs only [go_sem, Nat.reduceLT, Nat.reduceAdd, Nat.reduceSub, Nat.reduceMul, Nat.reduceEqDiff, Nat.reduceBEq, Nat.reduceLeDiff, Int.reduceToNat, Int.reduceLT, Int.reduceLE, Int.reduceEq, reduceCtorEq, ↓reduceIte] at w20
    try simp -implicitDefEqProofs only [go_sem, Nat.reduceLT, Nat.reduceAdd, Nat.reduceSub, Nat.reduceMul, Nat.reduceEqDiff, Nat.reduceBEq, Nat.reduceLeDiff, Int.reduceToNat, Int.reduceLT, Int.reduceLE, Int.reduceEq, reduceCtorEq, ↓reduceIte, E62_1, X62_1, k62_1b, b13, g16, g17, g18, w20]
    cases b22 : (eqI r21 x14 : Bool)
    · replace h := br_f b22 h
      cases h
      simp -implicitDefEqProofs only [go_sem, Nat.reduceLT, Nat.reduceAdd, Nat.reduceSub, Nat.reduceMul, Nat.reduceEqDiff, Nat.reduceBEq, Nat.reduceLeDiff, Int.reduceToNat, Int.reduceLT, Int.reduceLE, Int.reduceEq, reduceCtorEq, ↓reduceIte, E62_1, X62_1, k62_1b, b13, g16, g17, g18, w20, b22]
    · replace h := br_t b22 h
      cases h
      simp -implicitDefEqProofs only [go_sem, Nat.reduceLT, Nat.reduceAdd, Nat.reduceSub, Nat.reduceMul, Nat.reduceEqDiff, Nat.reduceBEq, Nat.reduceLeDiff, Int.reduceToNat, Int.reduceLT, Int.reduceLE, Int.reduceEq, reduceCtorEq, ↓reduceIte, E62_1, X62_1, k62_1b, b13, g16, g17, g18, w20, b22]
theorem e62_1 (a1 : (List Int)) (p1 : Int) (a0 : Spp) (s : Int) (o : (Unit ⊕ Unit)) (h : loopP (m62_1b a1 p1 a0) s = some o) : evCL T 0 (.loop k62_1b) (E62_1 a1 p1 a0 s).1 (E62_1 a1 p1 a0 s).2 = some (X62_1 a1 p1 a0 o) :=
  loop_walk (E := E62_1 a1 p1 a0) (X := X62_1 a1 p1 a0) (by intro b; rcases b with b | b <;> (simp only [X62_1]; nofun)) (b62_1 a1 p1 a0) s o h
theorem e62 (a0 : Spp) (a1 : (List Int)) (r : Bool) (h : m62 a0 a1 = some r) : evFL T 62 [.agg [.ts .imm 1 (a0.ranked.map (encLLInt .imm))], .ts .imm 1 (a1.map encInt)] [] = some (.bool r, []) := by
  unfold m62 at h
  rw [evFL_at fn62 (Nat.le_of_ble_eq_true rfl) rfl (.inr rfl) ⟨rfl, rfl⟩]
  try simp -implicitDefEqProofs only [go_sem, Nat.reduceLT, Nat.reduceAdd, Nat.reduceSub, Nat.reduceMul, Nat.reduceEqDiff, Nat.reduceBEq, Nat.reduceLeDiff, Int.reduceToNat, Int.reduceLT, Int.reduceLE, Int.reduceEq, reduceCtorEq, ↓reduceIte, i62, c62]
  obtain ⟨o, q23, h⟩ := bnd_some h
  rcases o with ⟨⟩ | ⟨⟩
  · replace h := selS_l h
    have w24 := e62_1 a1 (↑a1.length : Int) a0 0 (.inl ()) q23
    simp only [E62_1, X62_1] at w24
    try simp -implicitDefEqProofs only [go_sem, Nat.reduceLT, Nat.reduceAdd, Nat.reduceSub, Nat.reduceMul, Nat.reduceEqDiff, Nat.reduceBEq, Nat.reduceLeDiff, Int.reduceToNat, Int.reduceLT, Int.reduceLE, Int.reduceEq, reduceCtorEq, ↓reduceIte] at w24
    cases h
    simp -implicitDefEqProofs only [go_sem, Nat.reduceLT, Nat.reduceAdd, Nat.reduceSub, Nat.reduceMul, Nat.reduceEqDiff, Nat.reduceBEq, Nat.reduceLeDiff, Int.reduceToNat, Int.reduceLT, Int.reduceLE, Int.reduceEq, reduceCtorEq, ↓reduceIte, i62, c62, w24]
  · replace h := selS_r h
    have w24 := e62_1 a1 (↑a1.length : Int) a0 0 (.inr ()) q23
    simp only [E62_1, X62_1] at w24
    try simp -implicitDefEqProofs only [go_sem, Nat.reduceLT, Nat.reduceAdd, Nat.reduceSub, Nat.reduceMul, Nat.reduceEqDiff, Nat.reduceBEq, Nat.reduceLeDiff, Int.reduceToNat, Int.reduceLT, Int.reduceLE, Int.reduceEq, reduceCtorEq, ↓reduceIte] at w24
    cases h
    simp -implicitDefEqProofs only [go_sem, Nat.reduceLT, Nat.reduceAdd, Nat.reduceSub, Nat.reduceMul, Nat.reduceEqDiff, Nat.reduceBEq, Nat.reduceLeDiff, Int.reduceToNat, Int.reduceLT, Int.reduceLE, Int.reduceEq, reduceCtorEq, ↓reduceIte, i62, c62, w24]
-- f96 slices.Clone[[]int,int]
theorem call96 (args : List AV) (S : St) : evCall T (evFL T) 96 args S = lendC (evFL T 96) S (lendAll S [[1]] args) := evCall0 fn96 rfl rfl rfl args S
theorem callz96 (args : List AV) (S : St) : evCallFz T (evFL T) 96 args S = lendZ (evFL T 96) S [[1]] (lendAll S [[1]] args) := evCallFz0 fn96 rfl rfl rfl args S
theorem calls96 (args : List AV) (S : St) : evCall (T.at true) (evFL T) 96 args S = lendC (evFL T 96) S (lendAll S [[1]] args) := evCall0 fns96 rfl rfl rfl args S
theorem callsz96 (args : List AV) (S : St) : evCallFz (T.at true) (evFL T) 96 args S = lendZ (evFL T 96) S [[1]] (lendAll S [[1]] args) := evCallFz0 fns96 rfl rfl rfl args S
attribute [go_sem] call96 callz96 calls96 callsz96
theorem e96 (a0 : (List Int)) (r : (List Int)) (h : m96 a0 = some r) : evFL T 96 [.ts .imm 1 (a0.map encInt)] [] = some (.sl 0 0 r.length, [some ⟨.arr, 1, r.map encInt⟩]) := by
  unfold m96 at h
  rw [evFL_at fn96 (Nat.le_of_ble_eq_true rfl) rfl (.inr rfl) ⟨rfl, rfl⟩]
  cases a0 with
  | nil =>
      obtain ⟨g1, h⟩ := ck_some h
      try simp -implicitDefEqProofs only [go_sem, Nat.reduceLT, Nat.reduceAdd, Nat.reduceSub, Nat.reduceMul, Nat.reduceEqDiff, Nat.reduceBEq, Nat.reduceLeDiff, Int.reduceToNat, Int.reduceLT, Int.reduceLE, Int.reduceEq, reduceCtorEq, ↓reduceIte] at g1
      cases h
      simp -implicitDefEqProofs only [go_sem, Nat.reduceLT, Nat.reduceAdd, Nat.reduceSub, Nat.reduceMul, Nat.reduceEqDiff, Nat.reduceBEq, Nat.reduceLeDiff, Int.reduceToNat, Int.reduceLT, Int.reduceLE, Int.reduceEq, reduceCtorEq, ↓reduceIte, i96, c96, g1]
  | cons y ys =>
      obtain ⟨g1, h⟩ := ck_some h
      try simp -implicitDefEqProofs only [go_sem, Nat.reduceLT, Nat.reduceAdd, Nat.reduceSub, Nat.reduceMul, Nat.reduceEqDiff, Nat.reduceBEq, Nat.reduceLeDiff, Int.reduceToNat, Int.reduceLT, Int.reduceLE, Int.reduceEq, reduceCtorEq, ↓reduceIte] at g1
      cases h
      simp -implicitDefEqProofs only [go_sem, Nat.reduceLT, Nat.reduceAdd, Nat.reduceSub, Nat.reduceMul, Nat.reduceEqDiff, Nat.reduceBEq, Nat.reduceLeDiff, Int.reduceToNat, Int.reduceLT, Int.reduceLE, Int.reduceEq, reduceCtorEq, ↓reduceIte, i96, c96, g1]
-- f74 impl.stableFrom
theorem call74 (args : List AV) (S : St) : evCall T (evFL T) 74 args S = c3A true true (evFL T 74) (rawAll S [[1], [1], [1]] args) := evCall3_g fn74 rfl (fun h => absurd h.1 (by decide)) args S
theorem calls74 (args : List AV) (S : St) : evCall (T.at true) (evFL T) 74 args S = c3A false true (evFL T 74) (rawAll S [[1], [1], [1]] args) := evCall3_g fns74 rfl (fun h => absurd h.1 (by decide)) args S
attribute [go_sem] call74 calls74
noncomputable def X74_1 (r4 : Bool) (a1 : (List Int)) (a2 : (List (List Int))) (o : (List (List Int))) : Ex × Fr × St :=
  (.normal, frOf 44 (upd anyF 2 (.sl 2 0 o.length)), [none, none, some ⟨.arr, 1, o.map (encLInt .own)⟩])
theorem e74_1 (rc : Spp → (List Int) → (List (List Int)) → Option (List (List Int))) (hrc : ∀ (a0 : Spp) (a1 : (List Int)) (a2 : (List (List Int))) (r : List (List Int)), rc a0 a1 a2 = some r → evFL T 74 [.agg [.ts .imm 1 (a0.ranked.map (encLLInt .imm))], .sl 0 0 a1.length, .sl 1 0 a2.length] [some ⟨.arr, 1, a1.map encInt⟩, some ⟨.arr, 1, a2.map (encLInt .own)⟩] = some (.sl 2 0 r.length, [none, none, some ⟨.arr, 1, r.map (encLInt .own)⟩])) (r4 : Bool) (a1 : (List Int)) (a2 : (List (List Int))) (o : (List (List Int))) (h : m74_1 rc r4 a1 a2 = some o) : evCL T 2 k74_1 (frOf 44 (upd (upd (upd anyF 1 (.sl 2 0 a1.length)) 2 (.sl 3 0 a2.length)) 18 (.bool r4))) [none, none, some ⟨.arr, 1, a1.map encInt⟩, some ⟨.arr, 1, a2.map (encLInt .own)⟩] = some (X74_1 r4 a1 a2 o) := by
  unfold m74_1 at h
  try simp -implicitDefEqProofs only [go_sem, Nat.reduceLT, Nat.reduceAdd, Nat.reduceSub, Nat.reduceMul, Nat.reduceEqDiff, Nat.reduceBEq, Nat.reduceLeDiff, Int.reduceToNat, Int.reduceLT, Int.reduceLE, Int.reduceEq, reduceCtorEq, ↓reduceIte, X74_1, k74_1]
  cases b5 : (r4 : Bool)
  · replace h := br_f b5 h
    cases h
    simp -implicitDefEqProofs only [go_sem, Nat.reduceLT, Nat.reduceAdd, Nat.reduceSub, Nat.reduceMul, Nat.reduceEqDiff, Nat.reduceBEq, Nat.reduceLeDiff, Int.reduceToNat, Int.reduceLT, Int.reduceLE, Int.reduceEq, reduceCtorEq, ↓reduceIte, X74_1, k74_1, b5]
  · replace h := br_t b5 h
    obtain ⟨r8, q6, h⟩ := bnd_some h
    have w7 := e96 a1 r8 q6
    try simp -implicitDefEqProofs only [go_sem, Nat.reduceLT, Nat.reduceAdd, Nat.reduceSub, Nat.reduceMul, Nat.reduceEqDiff, Nat.reduceBEq, Nat.reduceLeDiff, Int.reduceToNat, Int.reduceLT, Int.reduceLE, Int.reduceEq, reduceCtorEq, ↓reduceIte] at w7
    obtain ⟨g9, h⟩ := ck_some h
    try simp -implicitDefEqProofs only [go_sem, Nat.reduceLT, Nat.reduceAdd, Nat.reduceSub, Nat.reduceMul, Nat.reduceEqDiff, Nat.reduceBEq, Nat.reduceLeDiff, Int.reduceToNat, Int.reduceLT, Int.reduceLE, Int.reduceEq, reduceCtorEq, ↓reduceIte] at g9
    cases h
    simp -implicitDefEqProofs only [go_sem, Nat.reduceLT, Nat.reduceAdd, Nat.reduceSub, Nat.reduceMul, Nat.reduceEqDiff, Nat.reduceBEq, Nat.reduceLeDiff, Int.reduceToNat, Int.reduceLT, Int.reduceLE, Int.reduceEq, reduceCtorEq, ↓reduceIte, X74_1, k74_1, b5, w7, g9]
noncomputable def X74_2 (p13 : Int) (a1 : (List Int)) (a0 : Spp) (o : (List (List Int))) : Ex × Fr × St :=
  (.exit 0, frOf 44 (upd anyF 2 (.sl 2 0 o.length)), [none, none, some ⟨.arr, 1, o.map (encLInt .own)⟩])
noncomputable def E74_2 (p13 : Int) (a1 : (List Int)) (a0 : Spp) (s : (Int × List (List Int))) : Fr × St := (frOf 44 (upd (upd (upd (upd (upd anyF 1 (.sl 2 0 a1.length)) 2 (.sl 3 0 s.2.length)) 3 (.ptr 4 0 0)) 7 (.int .i64 p13)) 8 (.int .i64 s.1)), [none, none, some ⟨.arr, 1, a1.map encInt⟩, some ⟨.arr, 1, s.2.map (encLInt .own)⟩, some ⟨.box, 1, [[.ts .imm 1 (a0.ranked.map (encLLInt .imm))]]⟩])
theorem b74_2 (rc : Spp → (List Int) → (List (List Int)) → Option (List (List Int))) (hrc : ∀ (a0 : Spp) (a1 : (List Int)) (a2 : (List (List Int))) (r : List (List Int)), rc a0 a1 a2 = some r → evFL T 74 [.agg [.ts .imm 1 (a0.ranked.map (encLLInt .imm))], .sl 0 0 a1.length, .sl 1 0 a2.length] [some ⟨.arr, 1, a1.map encInt⟩, some ⟨.arr, 1, a2.map (encLInt .own)⟩] = some (.sl 2 0 r.length, [none, none, some ⟨.arr, 1, r.map (encLInt .own)⟩])) (p13 : Int) (a1 : (List Int)) (a0 : Spp) (s : (Int × List (List Int))) (o : Ctl (Int × List (List Int)) (List (List Int))) (h : m74_2b rc p13 a1 a0 s = some o) : evCL T 2 k74_2b (E74_2 p13 a1 a0 s).1 (E74_2 p13 a1 a0 s).2 = some (ctlX (E74_2 p13 a1 a0) (X74_2 p13 a1 a0) o) := by
  unfold m74_2b at h
  obtain ⟨s27, s28⟩ := s
  replace h := sel2_some h
  obtain ⟨x29, q30, h⟩ := bnd_some h
  obtain ⟨g31, g32, g33⟩ := idx_row (encLLInt .imm) q30
  try simp -implicitDefEqProofs only [go_sem, Nat.reduceLT, Nat.reduceAdd, Nat.reduceSub, Nat.reduceMul, Nat.reduceEqDiff, Nat.reduceBEq, Nat.reduceLeDiff, Int.reduceToNat, Int.reduceLT, Int.reduceLE, Int.reduceEq, reduceCtorEq, ↓reduceIte] at g32
  try simp -implicitDefEqProofs only [go_sem, Nat.reduceLT, Nat.reduceAdd, Nat.reduceSub, Nat.reduceMul, Nat.reduceEqDiff, Nat.reduceBEq, Nat.reduceLeDiff, Int.reduceToNat, Int.reduceLT, Int.reduceLE, Int.reduceEq, reduceCtorEq, ↓reduceIte] at g33
  try simp -implicitDefEqProofs only [go_sem, Nat.reduceLT, Nat.reduceAdd, Nat.reduceSub, Nat.reduceMul, Nat.reduceEqDiff, Nat.reduceBEq, Nat.reduceLeDiff, Int.reduceToNat, Int.reduceLT, Int.reduceLE, Int.reduceEq, reduceCtorEq, ↓reduceIte, E74_2, X74_2, k74_2b, g31, g32, g33]
  cases b34 : (ltI s27 (↑x29.length : Int) : Bool)
  · replace h := br_f b34 h
    cases h
    simp -implicitDefEqProofs only [go_sem, Nat.reduceLT, Nat.reduceAdd, Nat.reduceSub, Nat.reduceMul, Nat.reduceEqDiff, Nat.reduceBEq, Nat.reduceLeDiff, Int.reduceToNat, Int.reduceLT, Int.reduceLE, Int.reduceEq, reduceCtorEq, ↓reduceIte, E74_2, X74_2, k74_2b, g31, g32, g33, b34]
  · replace h := br_t b34 h
    obtain ⟨r37, q35, h⟩ := bnd_some h
    have w36 := e96 a1 r37 q35
    try simp -implicitDefEqProofs only [go_sem, Nat.reduceLT, Nat.reduceAdd, Nat.reduceSub, Nat.reduceMul, Nat.reduceEqDiff, Nat.reduceBEq, Nat.reduceLeDiff, Int.reduceToNat, Int.reduceLT, Int.reduceLE, Int.reduceEq, reduceCtorEq, ↓reduceIte] at w36
    obtain ⟨g38, h⟩ := ck_some h
    try simp -implicitDefEqProofs only [go_sem, Nat.reduceLT, Nat.reduceAdd, Nat.reduceSub, Nat.reduceMul, Nat.reduceEqDiff, Nat.reduceBEq, Nat.reduceLeDiff, Int.reduceToNat, Int.reduceLT, Int.reduceLE, Int.reduceEq, reduceCtorEq, ↓reduceIte] at g38
    obtain ⟨r41, q39, h⟩ := bnd_some h
    have w40 := hrc a0 (r37 ++ [s27]) s28 r41 q39
    try simp -implicitDefEqProofs only [go_sem, Nat.reduceLT, Nat.reduceAdd, Nat.reduceSub, Nat.reduceMul, Nat.reduceEqDiff, Nat.reduceBEq, Nat.reduceLeDiff, Int.reduceToNat, Int.reduceLT, Int.reduceLE, Int.reduceEq, reduceCtorEq, ↓reduceIte] at w40
    cases h
    simp -implicitDefEqProofs only [go_sem, Nat.reduceLT, Nat.reduceAdd, Nat.reduceSub, Nat.reduceMul, Nat.reduceEqDiff, Nat.reduceBEq, Nat.reduceLeDiff, Int.reduceToNat, Int.reduceLT, Int.reduceLE, Int.reduceEq, reduceCtorEq, ↓reduceIte, E74_2, X74_2, k74_2b, g31, g32, g33, b34, w36, g38, w40]
theorem e74_2 (rc : Spp → (List Int) → (List (List Int)) → Option (List (List Int))) (hrc : ∀ (a0 : Spp) (a1 : (List Int)) (a2 : (List (List Int))) (r : List (List Int)), rc a0 a1 a2 = some r → evFL T 74 [.agg [.ts .imm 1 (a0.ranked.map (encLLInt .imm))], .sl 0 0 a1.length, .sl 1 0 a2.length] [some ⟨.arr, 1, a1.map encInt⟩, some ⟨.arr, 1, a2.map (encLInt .own)⟩] = some (.sl 2 0 r.length, [none, none, some ⟨.arr, 1, r.map (encLInt .own)⟩])) (p13 : Int) (a1 : (List Int)) (a0 : Spp) (s : (Int × List (List Int))) (o : (List (List Int))) (h : loopP (m74_2b rc p13 a1 a0) s = some o) : evCL T 2 (.loop k74_2b) (E74_2 p13 a1 a0 s).1 (E74_2 p13 a1 a0 s).2 = some (X74_2 p13 a1 a0 o) :=
  loop_walk (E := E74_2 p13 a1 a0) (X := X74_2 p13 a1 a0) (by intro b; (simp only [X74_2]; nofun)) (b74_2 rc hrc p13 a1 a0) s o h
theorem e74r (rc : Spp → (List Int) → (List (List Int)) → Option (List (List Int))) (hrc : ∀ (a0 : Spp) (a1 : (List Int)) (a2 : (List (List Int))) (r : List (List Int)), rc a0 a1 a2 = some r → evFL T 74 [.agg [.ts .imm 1 (a0.ranked.map (encLLInt .imm))], .sl 0 0 a1.length, .sl 1 0 a2.length] [some ⟨.arr, 1, a1.map encInt⟩, some ⟨.arr, 1, a2.map (encLInt .own)⟩] = some (.sl 2 0 r.length, [none, none, some ⟨.arr, 1, r.map (encLInt .own)⟩])) (a0 : Spp) (a1 : (List Int)) (a2 : (List (List Int))) (r : List (List Int)) (h : m74r rc a0 a1 a2 = some r) : evFL T 74 [.agg [.ts .imm 1 (a0.ranked.map (encLLInt .imm))], .sl 0 0 a1.length, .sl 1 0 a2.length] [some ⟨.arr, 1, a1.map encInt⟩, some ⟨.arr, 1, a2.map (encLInt .own)⟩] = some (.sl 2 0 r.length, [none, none, some ⟨.arr, 1, r.map (encLInt .own)⟩]) := by
  unfold m74r at h
  rw [evFL_at fn74 (Nat.le_of_ble_eq_true rfl) rfl (.inl rfl) ⟨rfl, rfl⟩]
  try simp -implicitDefEqProofs only [go_sem, Nat.reduceLT, Nat.reduceAdd, Nat.reduceSub, Nat.reduceMul, Nat.reduceEqDiff, Nat.reduceBEq, Nat.reduceLeDiff, Int.reduceToNat, Int.reduceLT, Int.reduceLE, Int.reduceEq, reduceCtorEq, ↓reduceIte, i74, c74]
  cases b1 : (eqI (↑a1.length : Int) (↑a0.ranked.length : Int) : Bool)
  · replace h := br_f b1 h
    obtain ⟨v44, q42, h⟩ := bnd_some h
    have w43 := e74_2 rc hrc (↑a1.length : Int) a1 a0 ((-1), a2) v44 q42
    simp only [E74_2, X74_2] at w43
    try simp -implicitDefEqProofs only [go_sem, Nat.reduceLT, Nat.reduceAdd, Nat.reduceSub, Nat.reduceMul, Nat.reduceEqDiff, Nat.reduceBEq, Nat.reduceLeDiff, Int.reduceToNat, Int.reduceLT, Int.reduceLE, Int.reduceEq, reduceCtorEq, ↓reduceIte] at w43
    cases h
    simp -implicitDefEqProofs only [go_sem, Nat.reduceLT, Nat.reduceAdd, Nat.reduceSub, Nat.reduceMul, Nat.reduceEqDiff, Nat.reduceBEq, Nat.reduceLeDiff, Int.reduceToNat, Int.reduceLT, Int.reduceLE, Int.reduceEq, reduceCtorEq, ↓reduceIte, i74, c74, b1, w43]
  · replace h := br_t b1 h
    obtain ⟨r4, q2, h⟩ := bnd_some h
    have w3 := e62 a0 a1 r4 q2
    try simp -implicitDefEqProofs only [go_sem, Nat.reduceLT, Nat.reduceAdd, Nat.reduceSub, Nat.reduceMul, Nat.reduceEqDiff, Nat.reduceBEq, Nat.reduceLeDiff, Int.reduceToNat, Int.reduceLT, Int.reduceLE, Int.reduceEq, reduceCtorEq, ↓reduceIte] at w3
    obtain ⟨v12, q10, h⟩ := bnd_some h
    have w11 := e74_1 rc hrc r4 a1 a2 v12 q10
    simp only [X74_1] at w11
    try simp -implicitDefEqProofs only [go_sem, Nat.reduceLT, Nat.reduceAdd, Nat.reduceSub, Nat.reduceMul, Nat.reduceEqDiff, Nat.reduceBEq, Nat.reduceLeDiff, Int.reduceToNat, Int.reduceLT, Int.reduceLE, Int.reduceEq, reduceCtorEq, ↓reduceIte] at w11
    cases h
    simp -implicitDefEqProofs only [go_sem, Nat.reduceLT, Nat.reduceAdd, Nat.reduceSub, Nat.reduceMul, Nat.reduceEqDiff, Nat.reduceBEq, Nat.reduceLeDiff, Int.reduceToNat, Int.reduceLT, Int.reduceLE, Int.reduceEq, reduceCtorEq, ↓reduceIte, i74, c74, b1, w3, w11]
theorem e74k : ∀ (k : Nat) (a0 : Spp) (a1 : (List Int)) (a2 : (List (List Int))) (r : List (List Int)) (h : m74k k a0 a1 a2 = some r), evFL T 74 [.agg [.ts .imm 1 (a0.ranked.map (encLLInt .imm))], .sl 0 0 a1.length, .sl 1 0 a2.length] [some ⟨.arr, 1, a1.map encInt⟩, some ⟨.arr, 1, a2.map (encLInt .own)⟩] = some (.sl 2 0 r.length, [none, none, some ⟨.arr, 1, r.map (encLInt .own)⟩]) := by
  intro k
  induction k with
  | zero => intro a0 a1 a2 r h; cases h
  | succ k ih => intro a0 a1 a2 r h; exact e74r (m74k k) (fun a0 a1 a2 r h => ih a0 a1 a2 r h) a0 a1 a2 r h
theorem e74 (a0 : Spp) (a1 : (List Int)) (a2 : (List (List Int))) (r : List (List Int)) (h : m74 a0 a1 a2 = some r) : evFL T 74 [.agg [.ts .imm 1 (a0.ranked.map (encLLInt .imm))], .sl 0 0 a1.length, .sl 1 0 a2.length] [some ⟨.arr, 1, a1.map encInt⟩, some ⟨.arr, 1, a2.map (encLInt .own)⟩] = some (.sl 2 0 r.length, [none, none, some ⟨.arr, 1, r.map (encLInt .own)⟩]) := by
  obtain ⟨N, hN⟩ := limO_iff.1 h
  exact e74k N a0 a1 a2 r (hN N (Nat.le_refl N))
-- f32 impl.StableOnes
theorem call32 (args : List AV) (S : St) : evCall T (evFL T) 32 args S = lendC (evFL T 32) S (lendAll S [[1]] args) := evCall0 fn32 rfl rfl rfl args S
theorem callz32 (args : List AV) (S : St) : evCallFz T (evFL T) 32 args S = lendZ (evFL T 32) S [[1], [0]] (lendAll S [[1]] args) := evCallFz0 fn32 rfl rfl rfl args S
theorem calls32 (args : List AV) (S : St) : evCall (T.at true) (evFL T) 32 args S = lendC (evFL T 32) S (lendAll S [[1]] args) := evCall0 fns32 rfl rfl rfl args S
theorem callsz32 (args : List AV) (S : St) : evCallFz (T.at true) (evFL T) 32 args S = lendZ (evFL T 32) S [[1], [0]] (lendAll S [[1]] args) := evCallFz0 fns32 rfl rfl rfl args S
attribute [go_sem] call32 callz32 calls32 callsz32
theorem e32 (a0 : Spp) (r : ((List (List Int)) × Bool)) (h : m32 a0 = some r) : evFL T 32 [.agg [.ts .imm 1 (a0.ranked.map (encLLInt .imm))]] [] = some (.tup [.sl 0 0 r.1.length, .bool r.2], [some ⟨.arr, 1, r.1.map (encLInt .own)⟩]) := by
  unfold m32 at h
  rw [evFL_at fn32 (Nat.le_of_ble_eq_true rfl) rfl (.inr rfl) ⟨rfl, rfl⟩]
  obtain ⟨r3, q1, h⟩ := bnd_some h
  have w2 := e16 a0 r3 q1
  try simp -implicitDefEqProofs only [go_sem, Nat.reduceLT, Nat.reduceAdd, Nat.reduceSub, Nat.reduceMul, Nat.reduceEqDiff, Nat.reduceBEq, Nat.reduceLeDiff, Int.reduceToNat, Int.reduceLT, Int.reduceLE, Int.reduceEq, reduceCtorEq, ↓reduceIte] at w2
  try simp -implicitDefEqProofs only [go_sem, Nat.reduceLT, Nat.reduceAdd, Nat.reduceSub, Nat.reduceMul, Nat.reduceEqDiff, Nat.reduceBEq, Nat.reduceLeDiff, Int.reduceToNat, Int.reduceLT, Int.reduceLE, Int.reduceEq, reduceCtorEq, ↓reduceIte, i32, c32, w2]
  cases b4 : (r3 : Bool)
  · replace h := br_f b4 h
    cases h
    simp -implicitDefEqProofs only [go_sem, Nat.reduceLT, Nat.reduceAdd, Nat.reduceSub, Nat.reduceMul, Nat.reduceEqDiff, Nat.reduceBEq, Nat.reduceLeDiff, Int.reduceToNat, Int.reduceLT, Int.reduceLE, Int.reduceEq, reduceCtorEq, ↓reduceIte, i32, c32, w2, b4]
  · replace h := br_t b4 h
    obtain ⟨r7, q5, h⟩ := bnd_some h
    have w6 := e74 a0 [] [] r7 q5
    try simp -implicitDefEqProofs only [go_sem, Nat.reduceLT, Nat.reduceAdd, Nat.reduceSub, Nat.reduceMul, Nat.reduceEqDiff, Nat.reduceBEq, Nat.reduceLeDiff, Int.reduceToNat, Int.reduceLT, Int.reduceLE, Int.reduceEq, reduceCtorEq, ↓reduceIte] at w6
    cases h
    simp -implicitDefEqProofs only [go_sem, Nat.reduceLT, Nat.reduceAdd, Nat.reduceSub, Nat.reduceMul, Nat.reduceEqDiff, Nat.reduceBEq, Nat.reduceLeDiff, Int.reduceToNat, Int.reduceLT, Int.reduceLE, Int.reduceEq, reduceCtorEq, ↓reduceIte, i32, c32, w2, b4, w6]
-- f21 laws.eqIntS
theorem call21 (args : List AV) (S : St) : evCall T (evFL T) 21 args S = lendC (evFL T 21) S (lendAll S [[1], [1]] args) := evCall0 fn21 rfl rfl rfl args S
theorem callz21 (args : List AV) (S : St) : evCallFz T (evFL T) 21 args S = lendZ (evFL T 21) S [[0]] (lendAll S [[1], [1]] args) := evCallFz0 fn21 rfl rfl rfl args S
theorem calls21 (args : List AV) (S : St) : evCall (T.at true) (evFL T) 21 args S = lendC (evFL T 21) S (lendAll S [[1], [1]] args) := evCall0 fns21 rfl rfl rfl args S
theorem callsz21 (args : List AV) (S : St) : evCallFz (T.at true) (evFL T) 21 args S = lendZ (evFL T 21) S [[0]] (lendAll S [[1], [1]] args) := evCallFz0 fns21 rfl rfl rfl args S
attribute [go_sem] call21 callz21 calls21 callsz21
noncomputable def X21_1 (a0 : (List Int)) (a1 : (List Int)) (o : (Unit ⊕ Unit)) : Ex × Fr × St :=
  match o with
  | .inl o => (.exit 0, frOf 26 (anyF), [])
  | .inr o => (.ret, frOf 26 (upd anyF 4 (.bool false)), [])
noncomputable def E21_1 (a0 : (List Int)) (a1 : (List Int)) (s : Int) : Fr × St := (frOf 26 (upd (upd (upd anyF 0 (.ts .imm 1 (a0.map encInt))) 1 (.ts .imm 1 (a1.map encInt))) 5 (.int .i64 s)), [])
theorem b21_1 (a0 : (List Int)) (a1 : (List Int)) (s : Int) (o : Ctl Int (Unit ⊕ Unit)) (h : m21_1b a0 a1 s = some o) : evCL T 0 k21_1b (E21_1 a0 a1 s).1 (E21_1 a0 a1 s).2 = some (ctlX (E21_1 a0 a1) (X21_1 a0 a1) o) := by
  unfold m21_1b at h
  revert h
  generalize s = s14
  intro h
  try simp -implicitDefEqProofs only [go_sem, Nat.reduceLT, Nat.reduceAdd, Nat.reduceSub, Nat.reduceMul, Nat.reduceEqDiff, Nat.reduceBEq, Nat.reduceLeDiff, Int.reduceToNat, Int.reduceLT, Int.reduceLE, Int.reduceEq, reduceCtorEq, ↓reduceIte, E21_1, X21_1, k21_1b]
  cases b15 : (ltI s14 (↑a0.length : Int) : Bool)
  · replace h := br_f b15 h
    cases h
    simp -implicitDefEqProofs only [go_sem, Nat.reduceLT, Nat.reduceAdd, Nat.reduceSub, Nat.reduceMul, Nat.reduceEqDiff, Nat.reduceBEq, Nat.reduceLeDiff, Int.reduceToNat, Int.reduceLT, Int.reduceLE, Int.reduceEq, reduceCtorEq, ↓reduceIte, E21_1, X21_1, k21_1b, b15]
  · replace h := br_t b15 h
    obtain ⟨x16, q17, h⟩ := bnd_some h
    obtain ⟨g18, g19, g20⟩ := idx_row encInt q17
    try simp -implicitDefEqProofs only [go_sem, Nat.reduceLT, Nat.reduceAdd, Nat.reduceSub, Nat.reduceMul, Nat.reduceEqDiff, Nat.reduceBEq, Nat.reduceLeDiff, Int.reduceToNat, Int.reduceLT, Int.reduceLE, Int.reduceEq, reduceCtorEq, ↓reduceIte] at g19
    try simp -implicitDefEqProofs only [go_sem, Nat.reduceLT, Nat.reduceAdd, Nat.reduceSub, Nat.reduceMul, Nat.reduceEqDiff, Nat.reduceBEq, Nat.reduceLeDiff, Int.reduceToNat, Int.reduceLT, Int.reduceLE, Int.reduceEq, reduceCtorEq, ↓reduceIte] at g20
    obtain ⟨x21, q22, h⟩ := bnd_some h
    obtain ⟨g23, g24, g25⟩ := idx_row encInt q22
    try simp -implicitDefEqProofs only [go_sem, Nat.reduceLT, Nat.reduceAdd, Nat.reduceSub, Nat.reduceMul, Nat.reduceEqDiff, Nat.reduceBEq, Nat.reduceLeDiff, Int.reduceToNat, Int.reduceLT, Int.reduceLE, Int.reduceEq, reduceCtorEq, ↓reduceIte] at g24
    try simp -implicitDefEqProofs only [go_sem, Nat.reduceLT, Nat.reduceAdd, Nat.reduceSub, Nat.reduceMul, Nat.reduceEqDiff, Nat.reduceBEq, Nat.reduceLeDiff, Int.reduceToNat, Int.reduceLT, Int.reduceLE, Int.reduceEq, reduceCtorEq, ↓reduceIte] at g25
    try simp -implicitDefEqProofs only [go_sem, Nat.reduceLT, Nat.reduceAdd, Nat.reduceSub, Nat.reduceMul, Nat.reduceEqDiff, Nat.reduceBEq, Nat.reduceLeDiff, Int.reduceToNat, Int.reduceLT, Int.reduceLE, Int.reduceEq, reduceCtorEq, ↓reduceIte, E21_1, X21_1, k21_1b, b15, g18, g19, g20, g23, g24, g25]
    cases b26 : (eqI x16 x21 : Bool)
    · replace h := br_f b26 h
      cases h
      simp -implicitDefEqProofs only [go_sem, Nat.reduceLT, Nat.reduceAdd, Nat.reduceSub, Nat.reduceMul, Nat.reduceEqDiff, Nat.reduceBEq, Nat.reduceLeDiff, Int.reduceToNat, Int.reduceLT, Int.reduceLE, Int.reduceEq, reduceCtorEq, ↓reduceIte, E21_1, X21_1, k21_1b, b15, g18, g19, g20, g23, g24, g25, b26]
    · replace h := br_t b26 h
      cases h
      simp -implicitDefEqProofs only [go_sem, Nat.reduceLT, Nat.reduceAdd, Nat.reduceSub, Nat.reduceMul, Nat.reduceEqDiff, Nat.reduceBEq, Nat.reduceLeDiff, Int.reduceToNat, Int.reduceLT, Int.reduceLE, Int.reduceEq, reduceCtorEq, ↓reduceIte, E21_1, X21_1, k21_1b, b15, g18, g19, g20, g23, g24, g25, b26]
theorem e21_1 (a0 : (List Int)) (a1 : (List Int)) (s : Int) (o : (Unit ⊕ Unit)) (h : loopP (m21_1b a0 a1) s = some o) : evCL T 0 (.loop k21_1b) (E21_1 a0 a1 s).1 (E21_1 a0 a1 s).2 = some (X21_1 a0 a1 o) :=
  loop_walk (E := E21_1 a0 a1) (X := X21_1 a0 a1) (by intro b; rcases b with b | b <;> (simp only [X21_1]; nofun)) (b21_1 a0 a1) s o h
theorem e21 (a0 : (List Int)) (a1 : (List Int)) (r : Bool) (h : m21 a0 a1 = some r) : evFL T 21 [.ts .imm 1 (a0.map encInt), .ts .imm 1 (a1.map encInt)] [] = some (.bool r, []) := by
  unfold m21 at h
  rw [evFL_at fn21 (Nat.le_of_ble_eq_true rfl) rfl (.inr rfl) ⟨rfl, rfl⟩]
  try simp -implicitDefEqProofs only [go_sem, Nat.reduceLT, Nat.reduceAdd, Nat.reduceSub, Nat.reduceMul, Nat.reduceEqDiff, Nat.reduceBEq, Nat.reduceLeDiff, Int.reduceToNat, Int.reduceLT, Int.reduceLE, Int.reduceEq, reduceCtorEq, ↓reduceIte, i21, c21]
  cases b1 : (eqI (↑a0.length : Int) (↑a1.length : Int) : Bool)
  · replace h := br_f b1 h
    cases h
    simp -implicitDefEqProofs only [go_sem, Nat.reduceLT, Nat.reduceAdd, Nat.reduceSub, Nat.reduceMul, Nat.reduceEqDiff, Nat.reduceBEq, Nat.reduceLeDiff, Int.reduceToNat, Int.reduceLT, Int.reduceLE, Int.reduceEq, reduceCtorEq, ↓reduceIte, i21, c21, b1]
  · replace h := br_t b1 h
    try simp -implicitDefEqProofs only [go_sem, Nat.reduceLT, Nat.reduceAdd, Nat.reduceSub, Nat.reduceMul, Nat.reduceEqDiff, Nat.reduceBEq, Nat.reduceLeDiff, Int.reduceToNat, Int.reduceLT, Int.reduceLE, Int.reduceEq, reduceCtorEq, ↓reduceIte, i21, c21, b1]
    obtain ⟨o, q27, h⟩ := bnd_some h
    rcases o with ⟨⟩ | ⟨⟩
    · replace h := selS_l h
      have w28 := e21_1 a0 a1 0 (.inl ()) q27
      simp only [E21_1, X21_1] at w28
      try simp -implicitDefEqProofs only [go_sem, Nat.reduceLT, Nat.reduceAdd, Nat.reduceSub, Nat.reduceMul, Nat.reduceEqDiff, Nat.reduceBEq, Nat.reduceLeDiff, Int.reduceToNat, Int.reduceLT, Int.reduceLE, Int.reduceEq, reduceCtorEq, ↓reduceIte] at w28
      cases h
      simp -implicitDefEqProofs only [go_sem, Nat.reduceLT, Nat.reduceAdd, Nat.reduceSub, Nat.reduceMul, Nat.reduceEqDiff, Nat.reduceBEq, Nat.reduceLeDiff, Int.reduceToNat, Int.reduceLT, Int.reduceLE, Int.reduceEq, reduceCtorEq, ↓reduceIte, i21, c21, b1, w28]
    · replace h := selS_r h
      have w28 := e21_1 a0 a1 0 (.inr ()) q27
      simp only [E21_1, X21_1] at w28
      try simp -implicitDefEqProofs only [go_sem, Nat.reduceLT, Nat.reduceAdd, Nat.reduceSub, Nat.reduceMul, Nat.reduceEqDiff, Nat.reduceBEq, Nat.reduceLeDiff, Int.reduceToNat, Int.reduceLT, Int.reduceLE, Int.reduceEq, reduceCtorEq, ↓reduceIte] at w28
      cases h
      simp -implicitDefEqProofs only [go_sem, Nat.reduceLT, Nat.reduceAdd, Nat.reduceSub, Nat.reduceMul, Nat.reduceEqDiff, Nat.reduceBEq, Nat.reduceLeDiff, Int.reduceToNat, Int.reduceLT, Int.reduceLE, Int.reduceEq, reduceCtorEq, ↓reduceIte, i21, c21, b1, w28]
-- f33 laws.eqIntSS
theorem call33 (args : List AV) (S : St) : evCall T (evFL T) 33 args S = lendC (evFL T 33) S (lendAll S [[1], [1]] args) := evCall0 fn33 rfl rfl rfl args S
theorem callz33 (args : List AV) (S : St) : evCallFz T (evFL T) 33 args S = lendZ (evFL T 33) S [[0]] (lendAll S [[1], [1]] args) := evCallFz0 fn33 rfl rfl rfl args S
theorem calls33 (args : List AV) (S : St) : evCall (T.at true) (evFL T) 33 args S = lendC (evFL T 33) S (lendAll S [[1], [1]] args) := evCall0 fns33 rfl rfl rfl args S
theorem callsz33 (args : List AV) (S : St) : evCallFz (T.at true) (evFL T) 33 args S = lendZ (evFL T 33) S [[0]] (lendAll S [[1], [1]] args) := evCallFz0 fns33 rfl rfl rfl args S
attribute [go_sem] call33 callz33 calls33 callsz33
noncomputable def X33_1 (a0 : (List (List Int))) (a1 : (List (List Int))) (o : (Unit ⊕ Unit)) : Ex × Fr × St :=
  match o with
  | .inl o => (.exit 0, frOf 27 (anyF), [])
  | .inr o => (.ret, frOf 27 (upd anyF 4 (.bool false)), [])
noncomputable def E33_1 (a0 : (List (List Int))) (a1 : (List (List Int))) (s : Int) : Fr × St := (frOf 27 (upd (upd (upd anyF 0 (.ts .imm 1 (a0.map (encLInt .imm)))) 1 (.ts .imm 1 (a1.map (encLInt .imm)))) 5 (.int .i64 s)), [])
theorem b33_1 (a0 : (List (List Int))) (a1 : (List (List Int))) (s : Int) (o : Ctl Int (Unit ⊕ Unit)) (h : m33_1b a0 a1 s = some o) : evCL T 0 k33_1b (E33_1 a0 a1 s).1 (E33_1 a0 a1 s).2 = some (ctlX (E33_1 a0 a1) (X33_1 a0 a1) o) := by
  unfold m33_1b at h
  revert h
  generalize s = s17
  intro h
  try simp -implicitDefEqProofs only [go_sem, Nat.reduceLT, Nat.reduceAdd, Nat.reduceSub, Nat.reduceMul, Nat.reduceEqDiff, Nat.reduceBEq, Nat.reduceLeDiff, Int.reduceToNat, Int.reduceLT, Int.reduceLE, Int.reduceEq, reduceCtorEq, ↓reduceIte, E33_1, X33_1, k33_1b]
  cases b18 : (ltI s17 (↑a0.length : Int) : Bool)
  · replace h := br_f b18 h
    cases h
    simp -implicitDefEqProofs only [go_sem, Nat.reduceLT, Nat.reduceAdd, Nat.reduceSub, Nat.reduceMul, Nat.reduceEqDiff, Nat.reduceBEq, Nat.reduceLeDiff, Int.reduceToNat, Int.reduceLT, Int.reduceLE, Int.reduceEq, reduceCtorEq, ↓reduceIte, E33_1, X33_1, k33_1b, b18]
  · replace h := br_t b18 h
    obtain ⟨x19, q20, h⟩ := bnd_some h
    obtain ⟨g21, g22, g23⟩ := idx_row (encLInt .imm) q20
    try simp -implicitDefEqProofs only [go_sem, Nat.reduceLT, Nat.reduceAdd, Nat.reduceSub, Nat.reduceMul, Nat.reduceEqDiff, Nat.reduceBEq, Nat.reduceLeDiff, Int.reduceToNat, Int.reduceLT, Int.reduceLE, Int.reduceEq, reduceCtorEq, ↓reduceIte] at g22
    try simp -implicitDefEqProofs only [go_sem, Nat.reduceLT, Nat.reduceAdd, Nat.reduceSub, Nat.reduceMul, Nat.reduceEqDiff, Nat.reduceBEq, Nat.reduceLeDiff, Int.reduceToNat, Int.reduceLT, Int.reduceLE, Int.reduceEq, reduceCtorEq, ↓reduceIte] at g23
    obtain ⟨x24, q25, h⟩ := bnd_some h
    obtain ⟨g26, g27, g28⟩ := idx_row (encLInt .imm) q25
    try simp -implicitDefEqProofs only [go_sem, Nat.reduceLT, Nat.reduceAdd, Nat.reduceSub, Nat.reduceMul, Nat.reduceEqDiff, Nat.reduceBEq, Nat.reduceLeDiff, Int.reduceToNat, Int.reduceLT, Int.reduceLE, Int.reduceEq, reduceCtorEq, ↓reduceIte] at g27
    try simp -implicitDefEqProofs only [go_sem, Nat.reduceLT, Nat.reduceAdd, Nat.reduceSub, Nat.reduceMul, Nat.reduceEqDiff, Nat.reduceBEq, Nat.reduceLeDiff, Int.reduceToNat, Int.reduceLT, Int.reduceLE, Int.reduceEq, reduceCtorEq, ↓reduceIte] at g28
    obtain ⟨r31, q29, h⟩ := bnd_some h
    have w30 := e21 x19 x24 r31 q29
    try simp -implicitDefEqProofs only [go_sem, Nat.reduceLT, Nat.reduceAdd, Nat.reduceSub, Nat.reduceMul, Nat.reduceEqDiff, Nat.reduceBEq, Nat.reduceLeDiff, Int.reduceToNat, Int.reduceLT, Int.reduceLE, Int.reduceEq, reduceCtorEq, ↓reduceIte] at w30
    try simp -implicitDefEqProofs only [go_sem, Nat.reduceLT, Nat.reduceAdd, Nat.reduceSub, Nat.reduceMul, Nat.reduceEqDiff, Nat.reduceBEq, Nat.reduceLeDiff, Int.reduceToNat, Int.reduceLT, Int.reduceLE, Int.reduceEq, reduceCtorEq, ↓reduceIte, E33_1, X33_1, k33_1b, b18, g21, g22, g23, g26, g27, g28, w30]
    cases b32 : (r31 : Bool)
    · replace h := br_f b32 h
      cases h
      simp -implicitDefEqProofs only [go_sem, Nat.reduceLT, Nat.reduceAdd, Nat.reduceSub, Nat.reduceMul, Nat.reduceEqDiff, Nat.reduceBEq, Nat.reduceLeDiff, Int.reduceToNat, Int.reduceLT, Int.reduceLE, Int.reduceEq, reduceCtorEq, ↓reduceIte, E33_1, X33_1, k33_1b, b18, g21, g22, g23, g26, g27, g28, w30, b32]
    · replace h := br_t b32 h
      cases h
      simp -implicitDefEqProofs only [go_sem, Nat.reduceLT, Nat.reduceAdd, Nat.reduceSub, Nat.reduceMul, Nat.reduceEqDiff, Nat.reduceBEq, Nat.reduceLeDiff, Int.reduceToNat, Int.reduceLT, Int.reduceLE, Int.reduceEq, reduceCtorEq, ↓reduceIte, E33_1, X33_1, k33_1b, b18, g21, g22, g23, g26, g27, g28, w30, b32]
theorem e33_1 (a0 : (List (List Int))) (a1 : (List (List Int))) (s : Int) (o : (Unit ⊕ Unit)) (h : loopP (m33_1b a0 a1) s = some o) : evCL T 0 (.loop k33_1b) (E33_1 a0 a1 s).1 (E33_1 a0 a1 s).2 = some (X33_1 a0 a1 o) :=
  loop_walk (E := E33_1 a0 a1) (X := X33_1 a0 a1) (by intro b; rcases b with b | b <;> (simp only [X33_1]; nofun)) (b33_1 a0 a1) s o h
theorem e33 (a0 : (List (List Int))) (a1 : (List (List Int))) (r : Bool) (h : m33 a0 a1 = some r) : evFL T 33 [.ts .imm 1 (a0.map (encLInt .imm)), .ts .imm 1 (a1.map (encLInt .imm))] [] = some (.bool r, []) := by
  unfold m33 at h
  rw [evFL_at fn33 (Nat.le_of_ble_eq_true rfl) rfl (.inr rfl) ⟨rfl, rfl⟩]
  try simp -implicitDefEqProofs only [go_sem, Nat.reduceLT, Nat.reduceAdd, Nat.reduceSub, Nat.reduceMul, Nat.reduceEqDiff, Nat.reduceBEq, Nat.reduceLeDiff, Int.reduceToNat, Int.reduceLT, Int.reduceLE, Int.reduceEq, reduceCtorEq, ↓reduceIte, i33, c33]
  cases b1 : (eqI (↑a0.length : Int) (↑a1.length : Int) : Bool)
  · replace h := br_f b1 h
    cases h
    simp -implicitDefEqProofs only [go_sem, Nat.reduceLT, Nat.reduceAdd, Nat.reduceSub, Nat.reduceMul, Nat.reduceEqDiff, Nat.reduceBEq, Nat.reduceLeDiff, Int.reduceToNat, Int.reduceLT, Int.reduceLE, Int.reduceEq, reduceCtorEq, ↓reduceIte, i33, c33, b1]
  · replace h := br_t b1 h
    try simp -implicitDefEqProofs only [go_sem, Nat.reduceLT, Nat.reduceAdd, Nat.reduceSub, Nat.reduceMul, Nat.reduceEqDiff, Nat.reduceBEq, Nat.reduceLeDiff, Int.reduceToNat, Int.reduceLT, Int.reduceLE, Int.reduceEq, reduceCtorEq, ↓reduceIte, i33, c33, b1]
    obtain ⟨o, q33, h⟩ := bnd_some h
    rcases o with ⟨⟩ | ⟨⟩
    · replace h := selS_l h
      have w34 := e33_1 a0 a1 0 (.inl ()) q33
      simp only [E33_1, X33_1] at w34
      try simp -implicitDefEqProofs only [go_sem, Nat.reduceLT, Nat.reduceAdd, Nat.reduceSub, Nat.reduceMul, Nat.reduceEqDiff, Nat.reduceBEq, Nat.reduceLeDiff, Int.reduceToNat, Int.reduceLT, Int.reduceLE, Int.reduceEq, reduceCtorEq, ↓reduceIte] at w34
      cases h
      simp -implicitDefEqProofs only [go_sem, Nat.reduceLT, Nat.reduceAdd, Nat.reduceSub, Nat.reduceMul, Nat.reduceEqDiff, Nat.reduceBEq, Nat.reduceLeDiff, Int.reduceToNat, Int.reduceLT, Int.reduceLE, Int.reduceEq, reduceCtorEq, ↓reduceIte, i33, c33, b1, w34]
    · replace h := selS_r h
      have w34 := e33_1 a0 a1 0 (.inr ()) q33
      simp only [E33_1, X33_1] at w34
      try simp -implicitDefEqProofs only [go_sem, Nat.reduceLT, Nat.reduceAdd, Nat.reduceSub, Nat.reduceMul, Nat.reduceEqDiff, Nat.reduceBEq, Nat.reduceLeDiff, Int.reduceToNat, Int.reduceLT, Int.reduceLE, Int.reduceEq, reduceCtorEq, ↓reduceIte] at w34
      cases h
      simp -implicitDefEqProofs only [go_sem, Nat.reduceLT, Nat.reduceAdd, Nat.reduceSub, Nat.reduceMul, Nat.reduceEqDiff, Nat.reduceBEq, Nat.reduceLeDiff, Int.reduceToNat, Int.reduceLT, Int.reduceLE, Int.reduceEq, reduceCtorEq, ↓reduceIte, i33, c33, b1, w34]
-- f56 laws.eqIntSSS
theorem call56 (args : List AV) (S : St) : evCall T (evFL T) 56 args S = lendC (evFL T 56) S (lendAll S [[1], [1]] args) := evCall0 fn56 rfl rfl rfl args S
theorem callz56 (args : List AV) (S : St) : evCallFz T (evFL T) 56 args S = lendZ (evFL T 56) S [[0]] (lendAll S [[1], [1]] args) := evCallFz0 fn56 rfl rfl rfl args S
theorem calls56 (args : List AV) (S : St) : evCall (T.at true) (evFL T) 56 args S = lendC (evFL T 56) S (lendAll S [[1], [1]] args) := evCall0 fns56 rfl rfl rfl args S
theorem callsz56 (args : List AV) (S : St) : evCallFz (T.at true) (evFL T) 56 args S = lendZ (evFL T 56) S [[0]] (lendAll S [[1], [1]] args) := evCallFz0 fns56 rfl rfl rfl args S
attribute [go_sem] call56 callz56 calls56 callsz56
noncomputable def X56_1 (a0 : (List (List (List Int)))) (a1 : (List (List (List Int)))) (o : (Unit ⊕ Unit)) : Ex × Fr × St :=
  match o with
  | .inl o => (.exit 0, frOf 27 (anyF), [])
  | .inr o => (.ret, frOf 27 (upd anyF 4 (.bool false)), [])
noncomputable def E56_1 (a0 : (List (List (List Int)))) (a1 : (List (List (List Int)))) (s : Int) : Fr × St := (frOf 27 (upd (upd (upd anyF 0 (.ts .imm 1 (a0.map (encLLInt .imm)))) 1 (.ts .imm 1 (a1.map (encLLInt .imm)))) 5 (.int .i64 s)), [])
theorem b56_1 (a0 : (List (List (List Int)))) (a1 : (List (List (List Int)))) (s : Int) (o : Ctl Int (Unit ⊕ Unit)) (h : m56_1b a0 a1 s = some o) : evCL T 0 k56_1b (E56_1 a0 a1 s).1 (E56_1 a0 a1 s).2 = some (ctlX (E56_1 a0 a1) (X56_1 a0 a1) o) := by
  unfold m56_1b at h
  revert h
  generalize s = s17
  intro h
  try simp -implicitDefEqProofs only [go_sem, Nat.reduceLT, Nat.reduceAdd, Nat.reduceSub, Nat.reduceMul, Nat.reduceEqDiff, Nat.reduceBEq, Nat.reduceLeDiff, Int.reduceToNat, Int.reduceLT, Int.reduceLE, Int.reduceEq, reduceCtorEq, ↓reduceIte, E56_1, X56_1, k56_1b]
  cases b18 : (ltI s17 (↑a0.length : Int) : Bool)
  · replace h := br_f b18 h
    cases h
    simp -implicitDefEqProofs only [go_sem, Nat.reduceLT, Nat.reduceAdd, Nat.reduceSub, Nat.reduceMul, Nat.reduceEqDiff, Nat.reduceBEq, Nat.reduceLeDiff, Int.reduceToNat, Int.reduceLT, Int.reduceLE, Int.reduceEq, reduceCtorEq, ↓reduceIte, E56_1, X56_1, k56_1b, b18]
  · replace h := br_t b18 h
    obtain ⟨x19, q20, h⟩ := bnd_some h
    obtain ⟨g21, g22, g23⟩ := idx_row (encLLInt .imm) q20
    try simp -implicitDefEqProofs only [go_sem, Nat.reduceLT, Nat.reduceAdd, Nat.reduceSub, Nat.reduceMul, Nat.reduceEqDiff, Nat.reduceBEq, Nat.reduceLeDiff, Int.reduceToNat, Int.reduceLT, Int.reduceLE, Int.reduceEq, reduceCtorEq, ↓reduceIte] at g22
    try simp -implicitDefEqProofs only [go_sem, Nat.reduceLT, Nat.reduceAdd, Nat.reduceSub, Nat.reduceMul, Nat.reduceEqDiff, Nat.reduceBEq, Nat.reduceLeDiff, Int.reduceToNat, Int.reduceLT, Int.reduceLE, Int.reduceEq, reduceCtorEq, ↓reduceIte] at g23
    obtain ⟨x24, q25, h⟩ := bnd_some h
    obtain ⟨g26, g27, g28⟩ := idx_row (encLLInt .imm) q25
    try simp -implicitDefEqProofs only [go_sem, Nat.reduceLT, Nat.reduceAdd, Nat.reduceSub, Nat.reduceMul, Nat.reduceEqDiff, Nat.reduceBEq, Nat.reduceLeDiff, Int.reduceToNat, Int.reduceLT, Int.reduceLE, Int.reduceEq, reduceCtorEq, ↓reduceIte] at g27
    try simp -implicitDefEqProofs only [go_sem, Nat.reduceLT, Nat.reduceAdd, Nat.reduceSub, Nat.reduceMul, Nat.reduceEqDiff, Nat.reduceBEq, Nat.reduceLeDiff, Int.reduceToNat, Int.reduceLT, Int.reduceLE, Int.reduceEq, reduceCtorEq, ↓reduceIte] at g28
    obtain ⟨r31, q29, h⟩ := bnd_some h
    have w30 := e33 x19 x24 r31 q29
    try simp -implicitDefEqProofs only [go_sem, Nat.reduceLT, Nat.reduceAdd, Nat.reduceSub, Nat.reduceMul, Nat.reduceEqDiff, Nat.reduceBEq, Nat.reduceLeDiff, Int.reduceToNat, Int.reduceLT, Int.reduceLE, Int.reduceEq, reduceCtorEq, ↓reduceIte] at w30
    try simp -implicitDefEqProofs only [go_sem, Nat.reduceLT, Nat.reduceAdd, Nat.reduceSub, Nat.reduceMul, Nat.reduceEqDiff, Nat.reduceBEq, Nat.reduceLeDiff, Int.reduceToNat, Int.reduceLT, Int.reduceLE, Int.reduceEq, reduceCtorEq, ↓reduceIte, E56_1, X56_1, k56_1b, b18, g21, g22, g23, g26, g27, g28, w30]
    cases b32 : (r31 : Bool)
    · replace h := br_f b32 h
      cases h
      simp -implicitDefEqProofs only [go_sem, Nat.reduceLT, Nat.reduceAdd, Nat.reduceSub, Nat.reduceMul, Nat.reduceEqDiff, Nat.reduceBEq, Nat.reduceLeDiff, Int.reduceToNat, Int.reduceLT, Int.reduceLE, Int.reduceEq, reduceCtorEq, ↓reduceIte, E56_1, X56_1, k56_1b, b18, g21, g22, g23, g26, g27, g28, w30, b32]
    · replace h := br_t b32 h
      cases h
      simp -implicitDefEqProofs only [go_sem, Nat.reduceLT, Nat.reduceAdd, Nat.reduceSub, Nat.reduceMul, Nat.reduceEqDiff, Nat.reduceBEq, Nat.reduceLeDiff, Int.reduceToNat, Int.reduceLT, Int.reduceLE, Int.reduceEq, reduceCtorEq, ↓reduceIte, E56_1, X56_1, k56_1b, b18, g21, g22, g23, g26, g27, g28, w30, b32]
theorem e56_1 (a0 : (List (List (List Int)))) (a1 : (List (List (List Int)))) (s : Int) (o : (Unit ⊕ Unit)) (h : loopP (m56_1b a0 a1) s = some o) : evCL T 0 (.loop k56_1b) (E56_1 a0 a1 s).1 (E56_1 a0 a1 s).2 = some (X56_1 a0 a1 o) :=
  loop_walk (E := E56_1 a0 a1) (X := X56_1 a0 a1) (by intro b; rcases b with b | b <;> (simp only [X56_1]; nofun)) (b56_1 a0 a1) s o h
theorem e56 (a0 : (List (List (List Int)))) (a1 : (List (List (List Int)))) (r : Bool) (h : m56 a0 a1 = some r) : evFL T 56 [.ts .imm 1 (a0.map (encLLInt .imm)), .ts .imm 1 (a1.map (encLLInt .imm))] [] = some (.bool r, []) := by
  unfold m56 at h
  rw [evFL_at fn56 (Nat.le_of_ble_eq_true rfl) rfl (.inr rfl) ⟨rfl, rfl⟩]
  try simp -implicitDefEqProofs only [go_sem, Nat.reduceLT, Nat.reduceAdd, Nat.reduceSub, Nat.reduceMul, Nat.reduceEqDiff, Nat.reduceBEq, Nat.reduceLeDiff, Int.reduceToNat, Int.reduceLT, Int.reduceLE, Int.reduceEq, reduceCtorEq, ↓reduceIte, i56, c56]
  cases b1 : (eqI (↑a0.length : Int) (↑a1.length : Int) : Bool)
  · replace h := br_f b1 h
    cases h
    simp -implicitDefEqProofs only [go_sem, Nat.reduceLT, Nat.reduceAdd, Nat.reduceSub, Nat.reduceMul, Nat.reduceEqDiff, Nat.reduceBEq, Nat.reduceLeDiff, Int.reduceToNat, Int.reduceLT, Int.reduceLE, Int.reduceEq, reduceCtorEq, ↓reduceIte, i56, c56, b1]
  · replace h := br_t b1 h
    try simp -implicitDefEqProofs only [go_sem, Nat.reduceLT, Nat.reduceAdd, Nat.reduceSub, Nat.reduceMul, Nat.reduceEqDiff, Nat.reduceBEq, Nat.reduceLeDiff, Int.reduceToNat, Int.reduceLT, Int.reduceLE, Int.reduceEq, reduceCtorEq, ↓reduceIte, i56, c56, b1]
    obtain ⟨o, q33, h⟩ := bnd_some h
    rcases o with ⟨⟩ | ⟨⟩
    · replace h := selS_l h
      have w34 := e56_1 a0 a1 0 (.inl ()) q33
      simp only [E56_1, X56_1] at w34
      try simp -implicitDefEqProofs only [go_sem, Nat.reduceLT, Nat.reduceAdd, Nat.reduceSub, Nat.reduceMul, Nat.reduceEqDiff, Nat.reduceBEq, Nat.reduceLeDiff, Int.reduceToNat, Int.reduceLT, Int.reduceLE, Int.reduceEq, reduceCtorEq, ↓reduceIte] at w34
      cases h
      simp -implicitDefEqProofs only [go_sem, Nat.reduceLT, Nat.reduceAdd, Nat.reduceSub, Nat.reduceMul, Nat.reduceEqDiff, Nat.reduceBEq, Nat.reduceLeDiff, Int.reduceToNat, Int.reduceLT, Int.reduceLE, Int.reduceEq, reduceCtorEq, ↓reduceIte, i56, c56, b1, w34]
    · replace h := selS_r h
      have w34 := e56_1 a0 a1 0 (.inr ()) q33
      simp only [E56_1, X56_1] at w34
      try simp -implicitDefEqProofs only [go_sem, Nat.reduceLT, Nat.reduceAdd, Nat.reduceSub, Nat.reduceMul, Nat.reduceEqDiff, Nat.reduceBEq, Nat.reduceLeDiff, Int.reduceToNat, Int.reduceLT, Int.reduceLE, Int.reduceEq, reduceCtorEq, ↓reduceIte] at w34
      cases h
      simp -implicitDefEqProofs only [go_sem, Nat.reduceLT, Nat.reduceAdd, Nat.reduceSub, Nat.reduceMul, Nat.reduceEqDiff, Nat.reduceBEq, Nat.reduceLeDiff, Int.reduceToNat, Int.reduceLT, Int.reduceLE, Int.reduceEq, reduceCtorEq, ↓reduceIte, i56, c56, b1, w34]
-- f17 laws.eqSpp
theorem call17 (args : List AV) (S : St) : evCall T (evFL T) 17 args S = lendC (evFL T 17) S (lendAll S [[1], [1]] args) := evCall0 fn17 rfl rfl rfl args S
theorem callz17 (args : List AV) (S : St) : evCallFz T (evFL T) 17 args S = lendZ (evFL T 17) S [[0]] (lendAll S [[1], [1]] args) := evCallFz0 fn17 rfl rfl rfl args S
theorem calls17 (args : List AV) (S : St) : evCall (T.at true) (evFL T) 17 args S = lendC (evFL T 17) S (lendAll S [[1], [1]] args) := evCall0 fns17 rfl rfl rfl args S
theorem callsz17 (args : List AV) (S : St) : evCallFz (T.at true) (evFL T) 17 args S = lendZ (evFL T 17) S [[0]] (lendAll S [[1], [1]] args) := evCallFz0 fns17 rfl rfl rfl args S
attribute [go_sem] call17 callz17 calls17 callsz17
theorem e17 (a0 : Spp) (a1 : Spp) (r : Bool) (h : m17 a0 a1 = some r) : evFL T 17 [.agg [.ts .imm 1 (a0.ranked.map (encLLInt .imm))], .agg [.ts .imm 1 (a1.ranked.map (encLLInt .imm))]] [] = some (.bool r, []) := by
  unfold m17 at h
  rw [evFL_at fn17 (Nat.le_of_ble_eq_true rfl) rfl (.inr rfl) ⟨rfl, rfl⟩]
  obtain ⟨r3, q1, h⟩ := bnd_some h
  have w2 := e56 a0.ranked a1.ranked r3 q1
  try simp -implicitDefEqProofs only [go_sem, Nat.reduceLT, Nat.reduceAdd, Nat.reduceSub, Nat.reduceMul, Nat.reduceEqDiff, Nat.reduceBEq, Nat.reduceLeDiff, Int.reduceToNat, Int.reduceLT, Int.reduceLE, Int.reduceEq, reduceCtorEq, ↓reduceIte] at w2
  try simp -implicitDefEqProofs only [go_sem, Nat.reduceLT, Nat.reduceAdd, Nat.reduceSub, Nat.reduceMul, Nat.reduceEqDiff, Nat.reduceBEq, Nat.reduceLeDiff, Int.reduceToNat, Int.reduceLT, Int.reduceLE, Int.reduceEq, reduceCtorEq, ↓reduceIte, i17, c17, w2]
  cases b4 : (r3 : Bool)
  · replace h := br_f b4 h
    cases h
    simp -implicitDefEqProofs only [go_sem, Nat.reduceLT, Nat.reduceAdd, Nat.reduceSub, Nat.reduceMul, Nat.reduceEqDiff, Nat.reduceBEq, Nat.reduceLeDiff, Int.reduceToNat, Int.reduceLT, Int.reduceLE, Int.reduceEq, reduceCtorEq, ↓reduceIte, i17, c17, w2, b4]
  · replace h := br_t b4 h
    cases h
    simp -implicitDefEqProofs only [go_sem, Nat.reduceLT, Nat.reduceAdd, Nat.reduceSub, Nat.reduceMul, Nat.reduceEqDiff, Nat.reduceBEq, Nat.reduceLeDiff, Int.reduceToNat, Int.reduceLT, Int.reduceLE, Int.reduceEq, reduceCtorEq, ↓reduceIte, i17, c17, w2, b4]
-- f29 laws.markIntS
theorem call29 (args : List AV) (S : St) : evCall T (evFL T) 29 args S = c3A true true (evFL T 29) (rawAll S [[1], [0]] args) := evCall3_g fn29 rfl (fun h => absurd h.1 (by decide)) args S
theorem calls29 (args : List AV) (S : St) : evCall (T.at true) (evFL T) 29 args S = c3A false true (evFL T 29) (rawAll S [[1], [0]] args) := evCall3_g fns29 rfl (fun h => absurd h.1 (by decide)) args S
attribute [go_sem] call29 calls29
noncomputable def X29_1 (o : (Int × List Int)) : Ex × Fr × St :=
  (.exit 0, frOf 19 (upd anyF 1 (.int .i64 o.1)), [some ⟨.arr, 1, o.2.map encInt⟩])
noncomputable def E29_1 (s : (Int × Int × List Int)) : Fr × St := (frOf 19 (upd (upd (upd anyF 0 (.sl 0 0 s.2.2.length)) 1 (.int .i64 s.1)) 5 (.int .i64 s.2.1)), [some ⟨.arr, 1, s.2.2.map encInt⟩])
theorem b29_1 (s : (Int × Int × List Int)) (o : Ctl (Int × Int × List Int) (Int × List Int)) (h : m29_1b s = some o) : evCL T 1 k29_1b (E29_1 s).1 (E29_1 s).2 = some (ctlX (E29_1) (X29_1) o) := by
  unfold m29_1b at h
  obtain ⟨s7, s8, s9⟩ := s
  replace h := sel3_some h
  try simp -implicitDefEqProofs only [go_sem, Nat.reduceLT, Nat.reduceAdd, Nat.reduceSub, Nat.reduceMul, Nat.reduceEqDiff, Nat.reduceBEq, Nat.reduceLeDiff, Int.reduceToNat, Int.reduceLT, Int.reduceLE, Int.reduceEq, reduceCtorEq, ↓reduceIte, E29_1, X29_1, k29_1b]
  cases b10 : (ltI s8 (↑s9.length : Int) : Bool)
  · replace h := br_f b10 h
    cases h
    simp -implicitDefEqProofs only [go_sem, Nat.reduceLT, Nat.reduceAdd, Nat.reduceSub, Nat.reduceMul, Nat.reduceEqDiff, Nat.reduceBEq, Nat.reduceLeDiff, Int.reduceToNat, Int.reduceLT, Int.reduceLE, Int.reduceEq, reduceCtorEq, ↓reduceIte, E29_1, X29_1, k29_1b, b10]
  · replace h := br_t b10 h
    obtain ⟨x11, q12, h⟩ := bnd_some h
    obtain ⟨g13, g14, g15⟩ := idx_row encInt q12
    try simp -implicitDefEqProofs only [go_sem, Nat.reduceLT, Nat.reduceAdd, Nat.reduceSub, Nat.reduceMul, Nat.reduceEqDiff, Nat.reduceBEq, Nat.reduceLeDiff, Int.reduceToNat, Int.reduceLT, Int.reduceLE, Int.reduceEq, reduceCtorEq, ↓reduceIte] at g14
    try simp -implicitDefEqProofs only [go_sem, Nat.reduceLT, Nat.reduceAdd, Nat.reduceSub, Nat.reduceMul, Nat.reduceEqDiff, Nat.reduceBEq, Nat.reduceLeDiff, Int.reduceToNat, Int.reduceLT, Int.reduceLE, Int.reduceEq, reduceCtorEq, ↓reduceIte] at g15
    cases h
    simp -implicitDefEqProofs only [go_sem, Nat.reduceLT, Nat.reduceAdd, Nat.reduceSub, Nat.reduceMul, Nat.reduceEqDiff, Nat.reduceBEq, Nat.reduceLeDiff, Int.reduceToNat, Int.reduceLT, Int.reduceLE, Int.reduceEq, reduceCtorEq, ↓reduceIte, E29_1, X29_1, k29_1b, b10, g13, g14, g15]
theorem e29_1 (s : (Int × Int × List Int)) (o : (Int × List Int)) (h : loopP (m29_1b) s = some o) : evCL T 1 (.loop k29_1b) (E29_1 s).1 (E29_1 s).2 = some (X29_1 o) :=
  loop_walk (E := E29_1) (X := X29_1) (by intro b; (simp only [X29_1]; nofun)) (b29_1) s o h
theorem e29 (a0 : (List Int)) (a1 : Int) (r : (Int × List Int)) (h : m29 a0 a1 = some r) : evFL T 29 [.sl 0 0 a0.length, .int .i64 a1] [some ⟨.arr, 1, a0.map encInt⟩] = some (.int .i64 r.1, [some ⟨.arr, 1, r.2.map encInt⟩]) := by
  unfold m29 at h
  rw [evFL_at fn29 (Nat.le_of_ble_eq_true rfl) rfl (.inl rfl) ⟨rfl, rfl⟩]
  obtain ⟨⟨v18, v19⟩, q16, h⟩ := bnd_some h
  replace h := sel2_some h
  have w17 := e29_1 (a1, 0, a0) (v18, v19) q16
  simp only [E29_1, X29_1] at w17
  try simp -implicitDefEqProofs only [go_sem, Nat.reduceLT, Nat.reduceAdd, Nat.reduceSub, Nat.reduceMul, Nat.reduceEqDiff, Nat.reduceBEq, Nat.reduceLeDiff, Int.reduceToNat, Int.reduceLT, Int.reduceLE, Int.reduceEq, reduceCtorEq, ↓reduceIte] at w17
  cases h
  simp -implicitDefEqProofs only [go_sem, Nat.reduceLT, Nat.reduceAdd, Nat.reduceSub, Nat.reduceMul, Nat.reduceEqDiff, Nat.reduceBEq, Nat.reduceLeDiff, Int.reduceToNat, Int.reduceLT, Int.reduceLE, Int.reduceEq, reduceCtorEq, ↓reduceIte, i29, c29, w17]
-- f34 laws.markIntSS
theorem calls34 (args : List AV) (S : St) : evCall (T.at true) (evFL T) 34 args S = c3A true true (evFL T 34) (rawAll S [[1], [0]] args) := evCall3_g fns34 rfl (fun h => absurd h.2 (by decide)) args S
attribute [go_sem] calls34
noncomputable def X34_1 (o : (Int × List (List Int))) : Ex × Fr × St :=
  (.exit 0, frOf 19 (upd anyF 1 (.int .i64 o.1)), [some ⟨.arr, 1, o.2.map (encLInt .own)⟩])
noncomputable def E34_1 (s : (Int × Int × List (List Int))) : Fr × St := (frOf 19 (upd (upd (upd anyF 0 (.sl 0 0 s.2.2.length)) 1 (.int .i64 s.1)) 5 (.int .i64 s.2.1)), [some ⟨.arr, 1, s.2.2.map (encLInt .own)⟩])
theorem b34_1 (s : (Int × Int × List (List Int))) (o : Ctl (Int × Int × List (List Int)) (Int × List (List Int))) (h : m34_1b s = some o) : evCL (T.at true) 1 k34_1b (E34_1 s).1 (E34_1 s).2 = some (ctlX (E34_1) (X34_1) o) := by
  unfold m34_1b at h
  obtain ⟨s12, s13, s14⟩ := s
  replace h := sel3_some h
  try simp -implicitDefEqProofs only [go_sem, Nat.reduceLT, Nat.reduceAdd, Nat.reduceSub, Nat.reduceMul, Nat.reduceEqDiff, Nat.reduceBEq, Nat.reduceLeDiff, Int.reduceToNat, Int.reduceLT, Int.reduceLE, Int.reduceEq, reduceCtorEq, ↓reduceIte, E34_1, X34_1, k34_1b]
  cases b15 : (ltI s13 (↑s14.length : Int) : Bool)
  · replace h := br_f b15 h
    cases h
    simp -implicitDefEqProofs only [go_sem, Nat.reduceLT, Nat.reduceAdd, Nat.reduceSub, Nat.reduceMul, Nat.reduceEqDiff, Nat.reduceBEq, Nat.reduceLeDiff, Int.reduceToNat, Int.reduceLT, Int.reduceLE, Int.reduceEq, reduceCtorEq, ↓reduceIte, E34_1, X34_1, k34_1b, b15]
  · replace h := br_t b15 h
    obtain ⟨x16, q17, h⟩ := bnd_some h
    obtain ⟨g18, g19, g20⟩ := idx_row (encLInt .own) q17
    try simp -implicitDefEqProofs only [go_sem, Nat.reduceLT, Nat.reduceAdd, Nat.reduceSub, Nat.reduceMul, Nat.reduceEqDiff, Nat.reduceBEq, Nat.reduceLeDiff, Int.reduceToNat, Int.reduceLT, Int.reduceLE, Int.reduceEq, reduceCtorEq, ↓reduceIte] at g19
    try simp -implicitDefEqProofs only [go_sem, Nat.reduceLT, Nat.reduceAdd, Nat.reduceSub, Nat.reduceMul, Nat.reduceEqDiff, Nat.reduceBEq, Nat.reduceLeDiff, Int.reduceToNat, Int.reduceLT, Int.reduceLE, Int.reduceEq, reduceCtorEq, ↓reduceIte] at g20
    obtain ⟨⟨r23, r24⟩, q21, h⟩ := bnd_some h
    replace h := sel2_some h
    have w22 := e29 x16 s12 (r23, r24) q21
    try simp -implicitDefEqProofs only [go_sem, Nat.reduceLT, Nat.reduceAdd, Nat.reduceSub, Nat.reduceMul, Nat.reduceEqDiff, Nat.reduceBEq, Nat.reduceLeDiff, Int.reduceToNat, Int.reduceLT, Int.reduceLE, Int.reduceEq, reduceCtorEq, ↓reduceIte] at w22
    obtain ⟨g25, h⟩ := ck_some h
    try simp -implicitDefEqProofs only [go_sem, Nat.reduceLT, Nat.reduceAdd, Nat.reduceSub, Nat.reduceMul, Nat.reduceEqDiff, Nat.reduceBEq, Nat.reduceLeDiff, Int.reduceToNat, Int.reduceLT, Int.reduceLE, Int.reduceEq, reduceCtorEq, ↓reduceIte] at g25
    cases h
    simp -implicitDefEqProofs only [go_sem, Nat.reduceLT, Nat.reduceAdd, Nat.reduceSub, Nat.reduceMul, Nat.reduceEqDiff, Nat.reduceBEq, Nat.reduceLeDiff, Int.reduceToNat, Int.reduceLT, Int.reduceLE, Int.reduceEq, reduceCtorEq, ↓reduceIte, E34_1, X34_1, k34_1b, b15, g18, g19, g20, w22, g25, take_of_len_map g25]
theorem e34_1 (s : (Int × Int × List (List Int))) (o : (Int × List (List Int))) (h : loopP (m34_1b) s = some o) : evCL (T.at true) 1 (.loop k34_1b) (E34_1 s).1 (E34_1 s).2 = some (X34_1 o) :=
  loop_walk (E := E34_1) (X := X34_1) (by intro b; (simp only [X34_1]; nofun)) (b34_1) s o h
theorem e34 (a0 : (List (List Int))) (a1 : Int) (r : (Int × List (List Int))) (h : m34 a0 a1 = some r) : evFL T 34 [.sl 0 0 a0.length, .int .i64 a1] [some ⟨.arr, 1, a0.map (encLInt .own)⟩] = some (.int .i64 r.1, [some ⟨.arr, 1, r.2.map (encLInt .own)⟩]) := by
  unfold m34 at h
  rw [evFL_atS fn34 (Nat.le_of_ble_eq_true rfl) rfl (.inl rfl) ⟨rfl, rfl⟩]
  obtain ⟨⟨v28, v29⟩, q26, h⟩ := bnd_some h
  replace h := sel2_some h
  have w27 := e34_1 (a1, 0, a0) (v28, v29) q26
  simp only [E34_1, X34_1] at w27
  try simp -implicitDefEqProofs only [go_sem, Nat.reduceLT, Nat.reduceAdd, Nat.reduceSub, Nat.reduceMul, Nat.reduceEqDiff, Nat.reduceBEq, Nat.reduceLeDiff, Int.reduceToNat, Int.reduceLT, Int.reduceLE, Int.reduceEq, reduceCtorEq, ↓reduceIte] at w27
  cases h
  simp -implicitDefEqProofs only [go_sem, Nat.reduceLT, Nat.reduceAdd, Nat.reduceSub, Nat.reduceMul, Nat.reduceEqDiff, Nat.reduceBEq, Nat.reduceLeDiff, Int.reduceToNat, Int.reduceLT, Int.reduceLE, Int.reduceEq, reduceCtorEq, ↓reduceIte, i34, c34, w27]
-- f72 laws.markIntSSS
theorem calls72 (args : List AV) (S : St) : evCall (T.at true) (evFL T) 72 args S = c3A true true (evFL T 72) (rawAll S [[1], [0]] args) := evCall3_g fns72 rfl (fun h => absurd h.2 (by decide)) args S
attribute [go_sem] calls72
noncomputable def X72_1 (o : (Int × List (List (List Int)))) : Ex × Fr × St :=
  (.exit 0, frOf 19 (upd anyF 1 (.int .i64 o.1)), [some ⟨.arr, 1, o.2.map (encLLInt .own)⟩])
noncomputable def E72_1 (s : (Int × Int × List (List (List Int)))) : Fr × St := (frOf 19 (upd (upd (upd anyF 0 (.sl 0 0 s.2.2.length)) 1 (.int .i64 s.1)) 5 (.int .i64 s.2.1)), [some ⟨.arr, 1, s.2.2.map (encLLInt .own)⟩])
theorem b72_1 (s : (Int × Int × List (List (List Int)))) (o : Ctl (Int × Int × List (List (List Int))) (Int × List (List (List Int)))) (h : m72_1b s = some o) : evCL (T.at true) 1 k72_1b (E72_1 s).1 (E72_1 s).2 = some (ctlX (E72_1) (X72_1) o) := by
  unfold m72_1b at h
  obtain ⟨s12, s13, s14⟩ := s
  replace h := sel3_some h
  try simp -implicitDefEqProofs only [go_sem, Nat.reduceLT, Nat.reduceAdd, Nat.reduceSub, Nat.reduceMul, Nat.reduceEqDiff, Nat.reduceBEq, Nat.reduceLeDiff, Int.reduceToNat, Int.reduceLT, Int.reduceLE, Int.reduceEq, reduceCtorEq, ↓reduceIte, E72_1, X72_1, k72_1b]
  cases b15 : (ltI s13 (↑s14.length : Int) : Bool)
  · replace h := br_f b15 h
    cases h
    simp -implicitDefEqProofs only [go_sem, Nat.reduceLT, Nat.reduceAdd, Nat.reduceSub, Nat.reduceMul, Nat.reduceEqDiff, Nat.reduceBEq, Nat.reduceLeDiff, Int.reduceToNat, Int.reduceLT, Int.reduceLE, Int.reduceEq, reduceCtorEq, ↓reduceIte, E72_1, X72_1, k72_1b, b15]
  · replace h := br_t b15 h
    obtain ⟨x16, q17, h⟩ := bnd_some h
    obtain ⟨g18, g19, g20⟩ := idx_row (encLLInt .own) q17
    try simp -implicitDefEqProofs only [go_sem, Nat.reduceLT, Nat.reduceAdd, Nat.reduceSub, Nat.reduceMul, Nat.reduceEqDiff, Nat.reduceBEq, Nat.reduceLeDiff, Int.reduceToNat, Int.reduceLT, Int.reduceLE, Int.reduceEq, reduceCtorEq, ↓reduceIte] at g19
    try simp -implicitDefEqProofs only [go_sem, Nat.reduceLT, Nat.reduceAdd, Nat.reduceSub, Nat.reduceMul, Nat.reduceEqDiff, Nat.reduceBEq, Nat.reduceLeDiff, Int.reduceToNat, Int.reduceLT, Int.reduceLE, Int.reduceEq, reduceCtorEq, ↓reduceIte] at g20
    obtain ⟨⟨r23, r24⟩, q21, h⟩ := bnd_some h
    replace h := sel2_some h
    have w22 := e34 x16 s12 (r23, r24) q21
    try simp -implicitDefEqProofs only [go_sem, Nat.reduceLT, Nat.reduceAdd, Nat.reduceSub, Nat.reduceMul, Nat.reduceEqDiff, Nat.reduceBEq, Nat.reduceLeDiff, Int.reduceToNat, Int.reduceLT, Int.reduceLE, Int.reduceEq, reduceCtorEq, ↓reduceIte] at w22
    obtain ⟨g25, h⟩ := ck_some h
    try simp -implicitDefEqProofs only [go_sem, Nat.reduceLT, Nat.reduceAdd, Nat.reduceSub, Nat.reduceMul, Nat.reduceEqDiff, Nat.reduceBEq, Nat.reduceLeDiff, Int.reduceToNat, Int.reduceLT, Int.reduceLE, Int.reduceEq, reduceCtorEq, ↓reduceIte] at g25
    cases h
    simp -implicitDefEqProofs only [go_sem, Nat.reduceLT, Nat.reduceAdd, Nat.reduceSub, Nat.reduceMul, Nat.reduceEqDiff, Nat.reduceBEq, Nat.reduceLeDiff, Int.reduceToNat, Int.reduceLT, Int.reduceLE, Int.reduceEq, reduceCtorEq, ↓reduceIte, E72_1, X72_1, k72_1b, b15, g18, g19, g20, w22, g25, take_of_len_map g25]
theorem e72_1 (s : (Int × Int × List (List (List Int)))) (o : (Int × List (List (List Int)))) (h : loopP (m72_1b) s = some o) : evCL (T.at true) 1 (.loop k72_1b) (E72_1 s).1 (E72_1 s).2 = some (X72_1 o) :=
  loop_walk (E := E72_1) (X := X72_1) (by intro b; (simp only [X72_1]; nofun)) (b72_1) s o h
theorem e72 (a0 : (List (List (List Int)))) (a1 : Int) (r : (Int × List (List (List Int)))) (h : m72 a0 a1 = some r) : evFL T 72 [.sl 0 0 a0.length, .int .i64 a1] [some ⟨.arr, 1, a0.map (encLLInt .own)⟩] = some (.int .i64 r.1, [some ⟨.arr, 1, r.2.map (encLLInt .own)⟩]) := by
  unfold m72 at h
  rw [evFL_atS fn72 (Nat.le_of_ble_eq_true rfl) rfl (.inl rfl) ⟨rfl, rfl⟩]
  obtain ⟨⟨v28, v29⟩, q26, h⟩ := bnd_some h
  replace h := sel2_some h
  have w27 := e72_1 (a1, 0, a0) (v28, v29) q26
  simp only [E72_1, X72_1] at w27
  try simp -implicitDefEqProofs only [go_sem, Nat.reduceLT, Nat.reduceAdd, Nat.reduceSub, Nat.reduceMul, Nat.reduceEqDiff, Nat.reduceBEq, Nat.reduceLeDiff, Int.reduceToNat, Int.reduceLT, Int.reduceLE, Int.reduceEq, reduceCtorEq, ↓reduceIte] at w27
  cases h
  simp -implicitDefEqProofs only [go_sem, Nat.reduceLT, Nat.reduceAdd, Nat.reduceSub, Nat.reduceMul, Nat.reduceEqDiff, Nat.reduceBEq, Nat.reduceLeDiff, Int.reduceToNat, Int.reduceLT, Int.reduceLE, Int.reduceEq, reduceCtorEq, ↓reduceIte, i72, c72, w27]
-- f28 laws.markSpp
theorem calls28 (args : List AV) (S : St) : evCall (T.at true) (evFL T) 28 args S = c3A true true (evFL T 28) (rawAll S [[1], [0]] args) := evCall3_g fns28 rfl (fun h => absurd h.2 (by decide)) args S
attribute [go_sem] calls28
theorem e28 (a0 : Spp) (a1 : Int) (r : (Int × List (List (List Int)))) (h : m28 a0 a1 = some r) : evFL T 28 [.agg [.sl 0 0 a0.ranked.length], .int .i64 a1] [some ⟨.arr, 1, a0.ranked.map (encLLInt .own)⟩] = some (.int .i64 r.1, [some ⟨.arr, 1, r.2.map (encLLInt .own)⟩]) := by
  unfold m28 at h
  rw [evFL_atS fn28 (Nat.le_of_ble_eq_true rfl) rfl (.inl rfl) ⟨rfl, rfl⟩]
  obtain ⟨⟨r3, r4⟩, q1, h⟩ := bnd_some h
  replace h := sel2_some h
  have w2 := e72 a0.ranked a1 (r3, r4) q1
  try simp -implicitDefEqProofs only [go_sem, Nat.reduceLT, Nat.reduceAdd, Nat.reduceSub, Nat.reduceMul, Nat.reduceEqDiff, Nat.reduceBEq, Nat.reduceLeDiff, Int.reduceToNat, Int.reduceLT, Int.reduceLE, Int.reduceEq, reduceCtorEq, ↓reduceIte] at w2
  obtain ⟨g5, h⟩ := ck_some h
  try simp -implicitDefEqProofs only [go_sem, Nat.reduceLT, Nat.reduceAdd, Nat.reduceSub, Nat.reduceMul, Nat.reduceEqDiff, Nat.reduceBEq, Nat.reduceLeDiff, Int.reduceToNat, Int.reduceLT, Int.reduceLE, Int.reduceEq, reduceCtorEq, ↓reduceIte] at g5
  cases h
  simp -implicitDefEqProofs only [go_sem, Nat.reduceLT, Nat.reduceAdd, Nat.reduceSub, Nat.reduceMul, Nat.reduceEqDiff, Nat.reduceBEq, Nat.reduceLeDiff, Int.reduceToNat, Int.reduceLT, Int.reduceLE, Int.reduceEq, reduceCtorEq, ↓reduceIte, i28, c28, w2, g5, take_of_len_map g5]
-- f30 laws.heldIntS
theorem call30 (args : List AV) (S : St) : evCall T (evFL T) 30 args S = lendC (evFL T 30) S (lendAll S [[1], [0]] args) := evCall0 fn30 rfl rfl rfl args S
theorem callz30 (args : List AV) (S : St) : evCallFz T (evFL T) 30 args S = lendZ (evFL T 30) S [[0]] (lendAll S [[1], [0]] args) := evCallFz0 fn30 rfl rfl rfl args S
theorem calls30 (args : List AV) (S : St) : evCall (T.at true) (evFL T) 30 args S = lendC (evFL T 30) S (lendAll S [[1], [0]] args) := evCall0 fns30 rfl rfl rfl args S
theorem callsz30 (args : List AV) (S : St) : evCallFz (T.at true) (evFL T) 30 args S = lendZ (evFL T 30) S [[0]] (lendAll S [[1], [0]] args) := evCallFz0 fns30 rfl rfl rfl args S
attribute [go_sem] call30 callz30 calls30 callsz30
noncomputable def X30_1 (a0 : (List Int)) (o : (Int ⊕ Unit)) : Ex × Fr × St :=
  match o with
  | .inl o => (.exit 0, frOf 21 (upd anyF 1 (.int .i64 o)), [])
  | .inr o => (.ret, frOf 21 (upd anyF 4 (.int .i64 (-1))), [])
noncomputable def E30_1 (a0 : (List Int)) (s : (Int × Int)) : Fr × St := (frOf 21 (upd (upd (upd anyF 0 (.ts .imm 1 (a0.map encInt))) 1 (.int .i64 s.1)) 5 (.int .i64 s.2)), [])
theorem b30_1 (a0 : (List Int)) (s : (Int × Int)) (o : Ctl (Int × Int) (Int ⊕ Unit)) (h : m30_1b a0 s = some o) : evCL T 0 k30_1b (E30_1 a0 s).1 (E30_1 a0 s).2 = some (ctlX (E30_1 a0) (X30_1 a0) o) := by
  unfold m30_1b at h
  obtain ⟨s8, s9⟩ := s
  replace h := sel2_some h
  try simp -implicitDefEqProofs only [go_sem, Nat.reduceLT, Nat.reduceAdd, Nat.reduceSub, Nat.reduceMul, Nat.reduceEqDiff, Nat.reduceBEq, Nat.reduceLeDiff, Int.reduceToNat, Int.reduceLT, Int.reduceLE, Int.reduceEq, reduceCtorEq, ↓reduceIte, E30_1, X30_1, k30_1b]
  cases b10 : (ltI s9 (↑a0.length : Int) : Bool)
  · replace h := br_f b10 h
    cases h
    simp -implicitDefEqProofs only [go_sem, Nat.reduceLT, Nat.reduceAdd, Nat.reduceSub, Nat.reduceMul, Nat.reduceEqDiff, Nat.reduceBEq, Nat.reduceLeDiff, Int.reduceToNat, Int.reduceLT, Int.reduceLE, Int.reduceEq, reduceCtorEq, ↓reduceIte, E30_1, X30_1, k30_1b, b10]
  · replace h := br_t b10 h
    obtain ⟨x11, q12, h⟩ := bnd_some h
    obtain ⟨g13, g14, g15⟩ := idx_row encInt q12
    try simp -implicitDefEqProofs only [go_sem, Nat.reduceLT, Nat.reduceAdd, Nat.reduceSub, Nat.reduceMul, Nat.reduceEqDiff, Nat.reduceBEq, Nat.reduceLeDiff, Int.reduceToNat, Int.reduceLT, Int.reduceLE, Int.reduceEq, reduceCtorEq, ↓reduceIte] at g14
    try simp -implicitDefEqProofs only [go_sem, Nat.reduceLT, Nat.reduceAdd, Nat.reduceSub, Nat.reduceMul, Nat.reduceEqDiff, Nat.reduceBEq, Nat.reduceLeDiff, Int.reduceToNat, Int.reduceLT, Int.reduceLE, Int.reduceEq, reduceCtorEq, ↓reduceIte] at g15
    try simp -implicitDefEqProofs only [go_sem, Nat.reduceLT, Nat.reduceAdd, Nat.reduceSub, Nat.reduceMul, Nat.reduceEqDiff, Nat.reduceBEq, Nat.reduceLeDiff, Int.reduceToNat, Int.reduceLT, Int.reduceLE, Int.reduceEq, reduceCtorEq, ↓reduceIte, E30_1, X30_1, k30_1b, b10, g13, g14, g15]
    cases b16 : (eqI x11 s8 : Bool)
    · replace h := br_f b16 h
      cases h
      simp -implicitDefEqProofs only [go_sem, Nat.reduceLT, Nat.reduceAdd, Nat.reduceSub, Nat.reduceMul, Nat.reduceEqDiff, Nat.reduceBEq, Nat.reduceLeDiff, Int.reduceToNat, Int.reduceLT, Int.reduceLE, Int.reduceEq, reduceCtorEq, ↓reduceIte, E30_1, X30_1, k30_1b, b10, g13, g14, g15, b16]
    · replace h := br_t b16 h
      cases h
      simp -implicitDefEqProofs only [go_sem, Nat.reduceLT, Nat.reduceAdd, Nat.reduceSub, Nat.reduceMul, Nat.reduceEqDiff, Nat.reduceBEq, Nat.reduceLeDiff, Int.reduceToNat, Int.reduceLT, Int.reduceLE, Int.reduceEq, reduceCtorEq, ↓reduceIte, E30_1, X30_1, k30_1b, b10, g13, g14, g15, b16]
theorem e30_1 (a0 : (List Int)) (s : (Int × Int)) (o : (Int ⊕ Unit)) (h : loopP (m30_1b a0) s = some o) : evCL T 0 (.loop k30_1b) (E30_1 a0 s).1 (E30_1 a0 s).2 = some (X30_1 a0 o) :=
  loop_walk (E := E30_1 a0) (X := X30_1 a0) (by intro b; rcases b with b | b <;> (simp only [X30_1]; nofun)) (b30_1 a0) s o h
theorem e30 (a0 : (List Int)) (a1 : Int) (r : Int) (h : m30 a0 a1 = some r) : evFL T 30 [.ts .imm 1 (a0.map encInt), .int .i64 a1] [] = some (.int .i64 r, []) := by
  unfold m30 at h
  rw [evFL_at fn30 (Nat.le_of_ble_eq_true rfl) rfl (.inr rfl) ⟨rfl, rfl⟩]
  try simp -implicitDefEqProofs only [go_sem, Nat.reduceLT, Nat.reduceAdd, Nat.reduceSub, Nat.reduceMul, Nat.reduceEqDiff, Nat.reduceBEq, Nat.reduceLeDiff, Int.reduceToNat, Int.reduceLT, Int.reduceLE, Int.reduceEq, reduceCtorEq, ↓reduceIte, i30, c30]
  obtain ⟨o, q17, h⟩ := bnd_some h
  rcases o with v19 | ⟨⟩
  · replace h := selS_l h
    have w18 := e30_1 a0 (a1, 0) (.inl v19) q17
    simp only [E30_1, X30_1] at w18
    try simp -implicitDefEqProofs only [go_sem, Nat.reduceLT, Nat.reduceAdd, Nat.reduceSub, Nat.reduceMul, Nat.reduceEqDiff, Nat.reduceBEq, Nat.reduceLeDiff, Int.reduceToNat, Int.reduceLT, Int.reduceLE, Int.reduceEq, reduceCtorEq, ↓reduceIte] at w18
    cases h
    simp -implicitDefEqProofs only [go_sem, Nat.reduceLT, Nat.reduceAdd, Nat.reduceSub, Nat.reduceMul, Nat.reduceEqDiff, Nat.reduceBEq, Nat.reduceLeDiff, Int.reduceToNat, Int.reduceLT, Int.reduceLE, Int.reduceEq, reduceCtorEq, ↓reduceIte, i30, c30, w18]
  · replace h := selS_r h
    have w18 := e30_1 a0 (a1, 0) (.inr ()) q17
    simp only [E30_1, X30_1] at w18
    try simp -implicitDefEqProofs only [go_sem, Nat.reduceLT, Nat.reduceAdd, Nat.reduceSub, Nat.reduceMul, Nat.reduceEqDiff, Nat.reduceBEq, Nat.reduceLeDiff, Int.reduceToNat, Int.reduceLT, Int.reduceLE, Int.reduceEq, reduceCtorEq, ↓reduceIte] at w18
    cases h
    simp -implicitDefEqProofs only [go_sem, Nat.reduceLT, Nat.reduceAdd, Nat.reduceSub, Nat.reduceMul, Nat.reduceEqDiff, Nat.reduceBEq, Nat.reduceLeDiff, Int.reduceToNat, Int.reduceLT, Int.reduceLE, Int.reduceEq, reduceCtorEq, ↓reduceIte, i30, c30, w18]
-- f35 laws.heldIntSS
theorem call35 (args : List AV) (S : St) : evCall T (evFL T) 35 args S = lendC (evFL T 35) S (lendAll S [[1], [0]] args) := evCall0 fn35 rfl rfl rfl args S
theorem callz35 (args : List AV) (S : St) : evCallFz T (evFL T) 35 args S = lendZ (evFL T 35) S [[0]] (lendAll S [[1], [0]] args) := evCallFz0 fn35 rfl rfl rfl args S
theorem calls35 (args : List AV) (S : St) : evCall (T.at true) (evFL T) 35 args S = lendC (evFL T 35) S (lendAll S [[1], [0]] args) := evCall0 fns35 rfl rfl rfl args S
theorem callsz35 (args : List AV) (S : St) : evCallFz (T.at true) (evFL T) 35 args S = lendZ (evFL T 35) S [[0]] (lendAll S [[1], [0]] args) := evCallFz0 fns35 rfl rfl rfl args S
attribute [go_sem] call35 callz35 calls35 callsz35
noncomputable def X35_1 (a0 : (List (List Int))) (o : (Int ⊕ Unit)) : Ex × Fr × St :=
  match o with
  | .inl o => (.exit 0, frOf 21 (upd anyF 1 (.int .i64 o)), [])
  | .inr o => (.ret, frOf 21 (upd anyF 4 (.int .i64 (-1))), [])
noncomputable def E35_1 (a0 : (List (List Int))) (s : (Int × Int)) : Fr × St := (frOf 21 (upd (upd (upd anyF 0 (.ts .imm 1 (a0.map (encLInt .imm)))) 1 (.int .i64 s.1)) 5 (.int .i64 s.2)), [])
theorem b35_1 (a0 : (List (List Int))) (s : (Int × Int)) (o : Ctl (Int × Int) (Int ⊕ Unit)) (h : m35_1b a0 s = some o) : evCL T 0 k35_1b (E35_1 a0 s).1 (E35_1 a0 s).2 = some (ctlX (E35_1 a0) (X35_1 a0) o) := by
  unfold m35_1b at h
  obtain ⟨s11, s12⟩ := s
  replace h := sel2_some h
  try simp -implicitDefEqProofs only [go_sem, Nat.reduceLT, Nat.reduceAdd, Nat.reduceSub, Nat.reduceMul, Nat.reduceEqDiff, Nat.reduceBEq, Nat.reduceLeDiff, Int.reduceToNat, Int.reduceLT, Int.reduceLE, Int.reduceEq, reduceCtorEq, ↓reduceIte, E35_1, X35_1, k35_1b]
  cases b13 : (ltI s12 (↑a0.length : Int) : Bool)
  · replace h := br_f b13 h
    cases h
    simp -implicitDefEqProofs only [go_sem, Nat.reduceLT, Nat.reduceAdd, Nat.reduceSub, Nat.reduceMul, Nat.reduceEqDiff, Nat.reduceBEq, Nat.reduceLeDiff, Int.reduceToNat, Int.reduceLT, Int.reduceLE, Int.reduceEq, reduceCtorEq, ↓reduceIte, E35_1, X35_1, k35_1b, b13]
  · replace h := br_t b13 h
    obtain ⟨x14, q15, h⟩ := bnd_some h
    obtain ⟨g16, g17, g18⟩ := idx_row (encLInt .imm) q15
    try simp -implicitDefEqProofs only [go_sem, Nat.reduceLT, Nat.reduceAdd, Nat.reduceSub, Nat.reduceMul, Nat.reduceEqDiff, Nat.reduceBEq, Nat.reduceLeDiff, Int.reduceToNat, Int.reduceLT, Int.reduceLE, Int.reduceEq, reduceCtorEq, ↓reduceIte] at g17
    try simp -implicitDefEqProofs only [go_sem, Nat.reduceLT, Nat.reduceAdd, Nat.reduceSub, Nat.reduceMul, Nat.reduceEqDiff, Nat.reduceBEq, Nat.reduceLeDiff, Int.reduceToNat, Int.reduceLT, Int.reduceLE, Int.reduceEq, reduceCtorEq, ↓reduceIte] at g18
    obtain ⟨r21, q19, h⟩ := bnd_some h
    have w20 := e30 x14 s11 r21 q19
    try simp -implicitDefEqProofs only [go_sem, Nat.reduceLT, Nat.reduceAdd, Nat.reduceSub, Nat.reduceMul, Nat.reduceEqDiff, Nat.reduceBEq, Nat.reduceLeDiff, Int.reduceToNat, Int.reduceLT, Int.reduceLE, Int.reduceEq, reduceCtorEq, ↓reduceIte] at w20
    try simp -implicitDefEqProofs only [go_sem, Nat.reduceLT, Nat.reduceAdd, Nat.reduceSub, Nat.reduceMul, Nat.reduceEqDiff, Nat.reduceBEq, Nat.reduceLeDiff, Int.reduceToNat, Int.reduceLT, Int.reduceLE, Int.reduceEq, reduceCtorEq, ↓reduceIte, E35_1, X35_1, k35_1b, b13, g16, g17, g18, w20]
    cases b22 : (ltI r21 0 : Bool)
    · replace h := br_f b22 h
      cases h
      simp -implicitDefEqProofs only [go_sem, Nat.reduceLT, Nat.reduceAdd, Nat.reduceSub, Nat.reduceMul, Nat.reduceEqDiff, Nat.reduceBEq, Nat.reduceLeDiff, Int.reduceToNat, Int.reduceLT, Int.reduceLE, Int.reduceEq, reduceCtorEq, ↓reduceIte, E35_1, X35_1, k35_1b, b13, g16, g17, g18, w20, b22]
    · replace h := br_t b22 h
      cases h
      simp -implicitDefEqProofs only [go_sem, Nat.reduceLT, Nat.reduceAdd, Nat.reduceSub, Nat.reduceMul, Nat.reduceEqDiff, Nat.reduceBEq, Nat.reduceLeDiff, Int.reduceToNat, Int.reduceLT, Int.reduceLE, Int.reduceEq, reduceCtorEq, ↓reduceIte, E35_1, X35_1, k35_1b, b13, g16, g17, g18, w20, b22]
theorem e35_1 (a0 : (List (List Int))) (s : (Int × Int)) (o : (Int ⊕ Unit)) (h : loopP (m35_1b a0) s = some o) : evCL T 0 (.loop k35_1b) (E35_1 a0 s).1 (E35_1 a0 s).2 = some (X35_1 a0 o) :=
  loop_walk (E := E35_1 a0) (X := X35_1 a0) (by intro b; rcases b with b | b <;> (simp only [X35_1]; nofun)) (b35_1 a0) s o h
theorem e35 (a0 : (List (List Int))) (a1 : Int) (r : Int) (h : m35 a0 a1 = some r) : evFL T 35 [.ts .imm 1 (a0.map (encLInt .imm)), .int .i64 a1] [] = some (.int .i64 r, []) := by
  unfold m35 at h
  rw [evFL_at fn35 (Nat.le_of_ble_eq_true rfl) rfl (.inr rfl) ⟨rfl, rfl⟩]
  try simp -implicitDefEqProofs only [go_sem, Nat.reduceLT, Nat.reduceAdd, Nat.reduceSub, Nat.reduceMul, Nat.reduceEqDiff, Nat.reduceBEq, Nat.reduceLeDiff, Int.reduceToNat, Int.reduceLT, Int.reduceLE, Int.reduceEq, reduceCtorEq, ↓reduceIte, i35, c35]
  obtain ⟨o, q23, h⟩ := bnd_some h
  rcases o with v25 | ⟨⟩
  · replace h := selS_l h
    have w24 := e35_1 a0 (a1, 0) (.inl v25) q23
    simp only [E35_1, X35_1] at w24
    try simp -implicitDefEqProofs only [go_sem, Nat.reduceLT, Nat.reduceAdd, Nat.reduceSub, Nat.reduceMul, Nat.reduceEqDiff, Nat.reduceBEq, Nat.reduceLeDiff, Int.reduceToNat, Int.reduceLT, Int.reduceLE, Int.reduceEq, reduceCtorEq, ↓reduceIte] at w24
    cases h
    simp -implicitDefEqProofs only [go_sem, Nat.reduceLT, Nat.reduceAdd, Nat.reduceSub, Nat.reduceMul, Nat.reduceEqDiff, Nat.reduceBEq, Nat.reduceLeDiff, Int.reduceToNat, Int.reduceLT, Int.reduceLE, Int.reduceEq, reduceCtorEq, ↓reduceIte, i35, c35, w24]
  · replace h := selS_r h
    have w24 := e35_1 a0 (a1, 0) (.inr ()) q23
    simp only [E35_1, X35_1] at w24
    try simp -implicitDefEqProofs only [go_sem, Nat.reduceLT, Nat.reduceAdd, Nat.reduceSub, Nat.reduceMul, Nat.reduceEqDiff, Nat.reduceBEq, Nat.reduceLeDiff, Int.reduceToNat, Int.reduceLT, Int.reduceLE, Int.reduceEq, reduceCtorEq, ↓reduceIte] at w24
    cases h
    simp -implicitDefEqProofs only [go_sem, Nat.reduceLT, Nat.reduceAdd, Nat.reduceSub, Nat.reduceMul, Nat.reduceEqDiff, Nat.reduceBEq, Nat.reduceLeDiff, Int.reduceToNat, Int.reduceLT, Int.reduceLE, Int.reduceEq, reduceCtorEq, ↓reduceIte, i35, c35, w24]
-- f8 laws.FnExactStableOnes
noncomputable def X8_1 (r11 : Bool) (r17 : Bool) (a0 : Spp) (r10 : (List (List Int))) (r7 : Spp) (r16 : (List (List Int))) (o : Bool) : Ex × Fr × St :=
  (.normal, frOf 96 (upd (upd (upd (upd (upd (upd (upd anyF 1 (.ptr 0 0 0)) 4 (.sl 1 0 r10.length)) 5 (.bool r11)) 6 (.ptr 2 0 0)) 7 (.sl 4 0 r16.length)) 8 (.bool r17)) 40 (.bool o)), [some ⟨.box, 1, [[.ts .imm 1 (a0.ranked.map (encLLInt .imm))]]⟩, some ⟨.arr, 1, r10.map (encLInt .own)⟩, some ⟨.box, 1, [[.sl 3 0 r7.ranked.length]]⟩, some ⟨.arr, 1, r7.ranked.map (encLLInt .own)⟩, some ⟨.arr, 1, r16.map (encLInt .own)⟩])
theorem e8_1 (r11 : Bool) (r17 : Bool) (a0 : Spp) (r10 : (List (List Int))) (r7 : Spp) (r16 : (List (List Int))) (o : Bool) (h : m8_1 r11 r17 r10 r16 = some o) : evCL (T.at true) 0 k8_1 (frOf 96 (upd (upd (upd (upd (upd (upd anyF 1 (.ptr 0 0 0)) 4 (.sl 1 0 r10.length)) 5 (.bool r11)) 6 (.ptr 2 0 0)) 7 (.sl 4 0 r16.length)) 8 (.bool r17))) [some ⟨.box, 1, [[.ts .imm 1 (a0.ranked.map (encLLInt .imm))]]⟩, some ⟨.arr, 1, r10.map (encLInt .own)⟩, some ⟨.box, 1, [[.sl 3 0 r7.ranked.length]]⟩, some ⟨.arr, 1, r7.ranked.map (encLLInt .own)⟩, some ⟨.arr, 1, r16.map (encLInt .own)⟩] = some (X8_1 r11 r17 a0 r10 r7 r16 o) := by
  unfold m8_1 at h
  obtain ⟨r20, q18, h⟩ := bnd_some h
  have w19 := e33 r16 r10 r20 q18
  try simp -implicitDefEqProofs only [go_sem, Nat.reduceLT, Nat.reduceAdd, Nat.reduceSub, Nat.reduceMul, Nat.reduceEqDiff, Nat.reduceBEq, Nat.reduceLeDiff, Int.reduceToNat, Int.reduceLT, Int.reduceLE, Int.reduceEq, reduceCtorEq, ↓reduceIte] at w19
  try simp -implicitDefEqProofs only [go_sem, Nat.reduceLT, Nat.reduceAdd, Nat.reduceSub, Nat.reduceMul, Nat.reduceEqDiff, Nat.reduceBEq, Nat.reduceLeDiff, Int.reduceToNat, Int.reduceLT, Int.reduceLE, Int.reduceEq, reduceCtorEq, ↓reduceIte, X8_1, k8_1, w19]
  cases b21 : (r20 : Bool)
  · replace h := br_f b21 h
    cases h
    simp -implicitDefEqProofs only [go_sem, Nat.reduceLT, Nat.reduceAdd, Nat.reduceSub, Nat.reduceMul, Nat.reduceEqDiff, Nat.reduceBEq, Nat.reduceLeDiff, Int.reduceToNat, Int.reduceLT, Int.reduceLE, Int.reduceEq, reduceCtorEq, ↓reduceIte, X8_1, k8_1, w19, b21]
  · replace h := br_t b21 h
    cases h
    simp -implicitDefEqProofs only [go_sem, Nat.reduceLT, Nat.reduceAdd, Nat.reduceSub, Nat.reduceMul, Nat.reduceEqDiff, Nat.reduceBEq, Nat.reduceLeDiff, Int.reduceToNat, Int.reduceLT, Int.reduceLE, Int.reduceEq, reduceCtorEq, ↓reduceIte, X8_1, k8_1, w19, b21]
noncomputable def X8_2 (r11 : Bool) (r17 : Bool) (r34 : Int) (a0 : Spp) (r10 : (List (List Int))) (r16 : (List (List Int))) (o : Bool) : Ex × Fr × St :=
  (.normal, frOf 96 (upd (upd (upd (upd (upd anyF 1 (.ptr 0 0 0)) 4 (.sl 1 0 r10.length)) 5 (.bool r11)) 7 (.sl 2 0 r16.length)) 61 (.bool o)), [some ⟨.box, 1, [[.ts .imm 1 (a0.ranked.map (encLLInt .imm))]]⟩, some ⟨.arr, 1, r10.map (encLInt .own)⟩, some ⟨.arr, 1, r16.map (encLInt .own)⟩])
theorem e8_2 (r11 : Bool) (r17 : Bool) (r34 : Int) (a0 : Spp) (r10 : (List (List Int))) (r16 : (List (List Int))) (o : Bool) (h : m8_2 r11 r17 r34 r10 r16 = some o) : evCL (T.at true) 0 k8_2 (frOf 96 (upd (upd (upd (upd (upd (upd anyF 1 (.ptr 0 0 0)) 4 (.sl 1 0 r10.length)) 5 (.bool r11)) 7 (.sl 2 0 r16.length)) 8 (.bool r17)) 9 (.int .i64 r34))) [some ⟨.box, 1, [[.ts .imm 1 (a0.ranked.map (encLLInt .imm))]]⟩, some ⟨.arr, 1, r10.map (encLInt .own)⟩, some ⟨.arr, 1, r16.map (encLInt .own)⟩] = some (X8_2 r11 r17 r34 a0 r10 r16 o) := by
  unfold m8_2 at h
  try simp -implicitDefEqProofs only [go_sem, Nat.reduceLT, Nat.reduceAdd, Nat.reduceSub, Nat.reduceMul, Nat.reduceEqDiff, Nat.reduceBEq, Nat.reduceLeDiff, Int.reduceToNat, Int.reduceLT, Int.reduceLE, Int.reduceEq, reduceCtorEq, ↓reduceIte, X8_2, k8_2]
  cases b37 : (ltI r34 0 : Bool)
  · replace h := br_f b37 h
    obtain ⟨r40, q38, h⟩ := bnd_some h
    have w39 := e33 r16 r10 r40 q38
    try simp -implicitDefEqProofs only [go_sem, Nat.reduceLT, Nat.reduceAdd, Nat.reduceSub, Nat.reduceMul, Nat.reduceEqDiff, Nat.reduceBEq, Nat.reduceLeDiff, Int.reduceToNat, Int.reduceLT, Int.reduceLE, Int.reduceEq, reduceCtorEq, ↓reduceIte] at w39
    try simp -implicitDefEqProofs only [go_sem, Nat.reduceLT, Nat.reduceAdd, Nat.reduceSub, Nat.reduceMul, Nat.reduceEqDiff, Nat.reduceBEq, Nat.reduceLeDiff, Int.reduceToNat, Int.reduceLT, Int.reduceLE, Int.reduceEq, reduceCtorEq, ↓reduceIte, X8_2, k8_2, b37, w39]
    cases b41 : (r40 : Bool)
    · replace h := br_f b41 h
      cases h
      simp -implicitDefEqProofs only [go_sem, Nat.reduceLT, Nat.reduceAdd, Nat.reduceSub, Nat.reduceMul, Nat.reduceEqDiff, Nat.reduceBEq, Nat.reduceLeDiff, Int.reduceToNat, Int.reduceLT, Int.reduceLE, Int.reduceEq, reduceCtorEq, ↓reduceIte, X8_2, k8_2, b37, w39, b41]
    · replace h := br_t b41 h
      cases h
      simp -implicitDefEqProofs only [go_sem, Nat.reduceLT, Nat.reduceAdd, Nat.reduceSub, Nat.reduceMul, Nat.reduceEqDiff, Nat.reduceBEq, Nat.reduceLeDiff, Int.reduceToNat, Int.reduceLT, Int.reduceLE, Int.reduceEq, reduceCtorEq, ↓reduceIte, X8_2, k8_2, b37, w39, b41]
  · replace h := br_t b37 h
    cases h
    simp -implicitDefEqProofs only [go_sem, Nat.reduceLT, Nat.reduceAdd, Nat.reduceSub, Nat.reduceMul, Nat.reduceEqDiff, Nat.reduceBEq, Nat.reduceLeDiff, Int.reduceToNat, Int.reduceLT, Int.reduceLE, Int.reduceEq, reduceCtorEq, ↓reduceIte, X8_2, k8_2, b37]
noncomputable def X8_3 (r11 : Bool) (r48 : Int) (r17 : Bool) (r10 : (List (List Int))) (r49 : List (List Int)) (r16 : (List (List Int))) (o : Bool) : Ex × Fr × St :=
  (.normal, frOf 96 (upd (upd (upd anyF 7 (.sl 0 0 r49.length)) 10 (.int .i64 r48)) 87 (.bool o)), [some ⟨.arr, 1, r49.map (encLInt .own)⟩])
theorem e8_3 (r11 : Bool) (r48 : Int) (r17 : Bool) (r10 : (List (List Int))) (r49 : List (List Int)) (r16 : (List (List Int))) (o : Bool) (h : m8_3 r11 r17 r10 r16 = some o) : evCL (T.at true) 0 k8_3 (frOf 96 (upd (upd (upd (upd (upd (upd anyF 4 (.sl 0 0 r10.length)) 5 (.bool r11)) 7 (.sl 1 0 r49.length)) 10 (.int .i64 r48)) 12 (.sl 2 0 r16.length)) 13 (.bool r17))) [some ⟨.arr, 1, r10.map (encLInt .own)⟩, some ⟨.arr, 1, r49.map (encLInt .own)⟩, some ⟨.arr, 1, r16.map (encLInt .own)⟩] = some (X8_3 r11 r48 r17 r10 r49 r16 o) := by
  unfold m8_3 at h
  obtain ⟨r62, q60, h⟩ := bnd_some h
  have w61 := e33 r16 r10 r62 q60
  try simp -implicitDefEqProofs only [go_sem, Nat.reduceLT, Nat.reduceAdd, Nat.reduceSub, Nat.reduceMul, Nat.reduceEqDiff, Nat.reduceBEq, Nat.reduceLeDiff, Int.reduceToNat, Int.reduceLT, Int.reduceLE, Int.reduceEq, reduceCtorEq, ↓reduceIte] at w61
  try simp -implicitDefEqProofs only [go_sem, Nat.reduceLT, Nat.reduceAdd, Nat.reduceSub, Nat.reduceMul, Nat.reduceEqDiff, Nat.reduceBEq, Nat.reduceLeDiff, Int.reduceToNat, Int.reduceLT, Int.reduceLE, Int.reduceEq, reduceCtorEq, ↓reduceIte, X8_3, k8_3, w61]
  cases b63 : (r62 : Bool)
  · replace h := br_f b63 h
    cases h
    simp -implicitDefEqProofs only [go_sem, Nat.reduceLT, Nat.reduceAdd, Nat.reduceSub, Nat.reduceMul, Nat.reduceEqDiff, Nat.reduceBEq, Nat.reduceLeDiff, Int.reduceToNat, Int.reduceLT, Int.reduceLE, Int.reduceEq, reduceCtorEq, ↓reduceIte, X8_3, k8_3, w61, b63]
  · replace h := br_t b63 h
    cases h
    simp -implicitDefEqProofs only [go_sem, Nat.reduceLT, Nat.reduceAdd, Nat.reduceSub, Nat.reduceMul, Nat.reduceEqDiff, Nat.reduceBEq, Nat.reduceLeDiff, Int.reduceToNat, Int.reduceLT, Int.reduceLE, Int.reduceEq, reduceCtorEq, ↓reduceIte, X8_3, k8_3, w61, b63]
theorem e8 (a0 : Spp) (r : Bool) (h : m8 a0 = some r) : evFL T 8 [.agg [.ts .imm 1 (a0.ranked.map (encLLInt .imm))]] [] = some (.bool r, []) := by
  unfold m8 at h
  rw [evFL_atS fn8 (Nat.le_of_ble_eq_true rfl) rfl (.inr rfl) ⟨rfl, rfl⟩]
  obtain ⟨r3, q1, h⟩ := bnd_some h
  have w2 := e13 a0 1048576 r3 q1
  try simp -implicitDefEqProofs only [go_sem, Nat.reduceLT, Nat.reduceAdd, Nat.reduceSub, Nat.reduceMul, Nat.reduceEqDiff, Nat.reduceBEq, Nat.reduceLeDiff, Int.reduceToNat, Int.reduceLT, Int.reduceLE, Int.reduceEq, reduceCtorEq, ↓reduceIte] at w2
  try simp -implicitDefEqProofs only [go_sem, Nat.reduceLT, Nat.reduceAdd, Nat.reduceSub, Nat.reduceMul, Nat.reduceEqDiff, Nat.reduceBEq, Nat.reduceLeDiff, Int.reduceToNat, Int.reduceLT, Int.reduceLE, Int.reduceEq, reduceCtorEq, ↓reduceIte, i8, c8, w2]
  cases b4 : (ltI r3 0 : Bool)
  · replace h := br_f b4 h
    obtain ⟨r7, q5, h⟩ := bnd_some h
    have w6 := e15 a0 r7 q5
    try simp -implicitDefEqProofs only [go_sem, Nat.reduceLT, Nat.reduceAdd, Nat.reduceSub, Nat.reduceMul, Nat.reduceEqDiff, Nat.reduceBEq, Nat.reduceLeDiff, Int.reduceToNat, Int.reduceLT, Int.reduceLE, Int.reduceEq, reduceCtorEq, ↓reduceIte] at w6
    obtain ⟨⟨r10, r11⟩, q8, h⟩ := bnd_some h
    replace h := sel2_some h
    have w9 := e31 r7 (r10, r11) q8
    try simp -implicitDefEqProofs only [go_sem, Nat.reduceLT, Nat.reduceAdd, Nat.reduceSub, Nat.reduceMul, Nat.reduceEqDiff, Nat.reduceBEq, Nat.reduceLeDiff, Int.reduceToNat, Int.reduceLT, Int.reduceLE, Int.reduceEq, reduceCtorEq, ↓reduceIte] at w9
    obtain ⟨⟨r16, r17⟩, q14, h⟩ := bnd_some h
    replace h := sel2_some h
    have w15 := e32 r7 (r16, r17) q14
    try simp -implicitDefEqProofs only [go_sem, Nat.reduceLT, Nat.reduceAdd, Nat.reduceSub, Nat.reduceMul, Nat.reduceEqDiff, Nat.reduceBEq, Nat.reduceLeDiff, Int.reduceToNat, Int.reduceLT, Int.reduceLE, Int.reduceEq, reduceCtorEq, ↓reduceIte] at w15
    obtain ⟨v24, q22, h⟩ := bnd_some h
    have w23 := e8_1 r11 r17 a0 r10 r7 r16 v24 q22
    simp only [X8_1] at w23
    try simp -implicitDefEqProofs only [go_sem, Nat.reduceLT, Nat.reduceAdd, Nat.reduceSub, Nat.reduceMul, Nat.reduceEqDiff, Nat.reduceBEq, Nat.reduceLeDiff, Int.reduceToNat, Int.reduceLT, Int.reduceLE, Int.reduceEq, reduceCtorEq, ↓reduceIte] at w23
    try simp -implicitDefEqProofs only [go_sem, Nat.reduceLT, Nat.reduceAdd, Nat.reduceSub, Nat.reduceMul, Nat.reduceEqDiff, Nat.reduceBEq, Nat.reduceLeDiff, Int.reduceToNat, Int.reduceLT, Int.reduceLE, Int.reduceEq, reduceCtorEq, ↓reduceIte, i8, c8, w2, b4, w6, w9, w15, w23]
    cases b25 : (v24 : Bool)
    · replace h := br_f b25 h
      obtain ⟨r30, q28, h⟩ := bnd_some h
      have w29 := e17 r7 r7 r30 q28
      try simp -implicitDefEqProofs only [go_sem, Nat.reduceLT, Nat.reduceAdd, Nat.reduceSub, Nat.reduceMul, Nat.reduceEqDiff, Nat.reduceBEq, Nat.reduceLeDiff, Int.reduceToNat, Int.reduceLT, Int.reduceLE, Int.reduceEq, reduceCtorEq, ↓reduceIte] at w29
      try simp -implicitDefEqProofs only [go_sem, Nat.reduceLT, Nat.reduceAdd, Nat.reduceSub, Nat.reduceMul, Nat.reduceEqDiff, Nat.reduceBEq, Nat.reduceLeDiff, Int.reduceToNat, Int.reduceLT, Int.reduceLE, Int.reduceEq, reduceCtorEq, ↓reduceIte, i8, c8, w2, b4, w6, w9, w15, w23, b25, w29]
      cases b31 : (r30 : Bool)
      · replace h := br_f b31 h
        cases h
        simp -implicitDefEqProofs only [go_sem, Nat.reduceLT, Nat.reduceAdd, Nat.reduceSub, Nat.reduceMul, Nat.reduceEqDiff, Nat.reduceBEq, Nat.reduceLeDiff, Int.reduceToNat, Int.reduceLT, Int.reduceLE, Int.reduceEq, reduceCtorEq, ↓reduceIte, i8, c8, w2, b4, w6, w9, w15, w23, b25, w29, b31]
      · replace h := br_t b31 h
        obtain ⟨⟨r34, r35⟩, q32, h⟩ := bnd_some h
        replace h := sel2_some h
        have w33 := e28 r7 1 (r34, r35) q32
        try simp -implicitDefEqProofs only [go_sem, Nat.reduceLT, Nat.reduceAdd, Nat.reduceSub, Nat.reduceMul, Nat.reduceEqDiff, Nat.reduceBEq, Nat.reduceLeDiff, Int.reduceToNat, Int.reduceLT, Int.reduceLE, Int.reduceEq, reduceCtorEq, ↓reduceIte] at w33
        obtain ⟨g36, h⟩ := ck_some h
        try simp -implicitDefEqProofs only [go_sem, Nat.reduceLT, Nat.reduceAdd, Nat.reduceSub, Nat.reduceMul, Nat.reduceEqDiff, Nat.reduceBEq, Nat.reduceLeDiff, Int.reduceToNat, Int.reduceLT, Int.reduceLE, Int.reduceEq, reduceCtorEq, ↓reduceIte] at g36
        obtain ⟨v44, q42, h⟩ := bnd_some h
        have w43 := e8_2 r11 r17 r34 a0 r10 r16 v44 q42
        simp only [X8_2] at w43
        try simp -implicitDefEqProofs only [go_sem, Nat.reduceLT, Nat.reduceAdd, Nat.reduceSub, Nat.reduceMul, Nat.reduceEqDiff, Nat.reduceBEq, Nat.reduceLeDiff, Int.reduceToNat, Int.reduceLT, Int.reduceLE, Int.reduceEq, reduceCtorEq, ↓reduceIte, g36] at w43
        try simp -implicitDefEqProofs only [go_sem, Nat.reduceLT, Nat.reduceAdd, Nat.reduceSub, Nat.reduceMul, Nat.reduceEqDiff, Nat.reduceBEq, Nat.reduceLeDiff, Int.reduceToNat, Int.reduceLT, Int.reduceLE, Int.reduceEq, reduceCtorEq, ↓reduceIte, i8, c8, w2, b4, w6, w9, w15, w23, b25, w29, b31, w33, g36, take_of_len_map g36, w43]
        cases b45 : (v44 : Bool)
        · replace h := br_f b45 h
          obtain ⟨⟨r48, r49⟩, q46, h⟩ := bnd_some h
          replace h := sel2_some h
          have w47 := e34 r16 1 (r48, r49) q46
          try simp -implicitDefEqProofs only [go_sem, Nat.reduceLT, Nat.reduceAdd, Nat.reduceSub, Nat.reduceMul, Nat.reduceEqDiff, Nat.reduceBEq, Nat.reduceLeDiff, Int.reduceToNat, Int.reduceLT, Int.reduceLE, Int.reduceEq, reduceCtorEq, ↓reduceIte, g36] at w47
          obtain ⟨g50, h⟩ := ck_some h
          try simp -implicitDefEqProofs only [go_sem, Nat.reduceLT, Nat.reduceAdd, Nat.reduceSub, Nat.reduceMul, Nat.reduceEqDiff, Nat.reduceBEq, Nat.reduceLeDiff, Int.reduceToNat, Int.reduceLT, Int.reduceLE, Int.reduceEq, reduceCtorEq, ↓reduceIte] at g50
          obtain ⟨r53, q51, h⟩ := bnd_some h
          have w52 := e35 r49 1 r53 q51
          try simp -implicitDefEqProofs only [go_sem, Nat.reduceLT, Nat.reduceAdd, Nat.reduceSub, Nat.reduceMul, Nat.reduceEqDiff, Nat.reduceBEq, Nat.reduceLeDiff, Int.reduceToNat, Int.reduceLT, Int.reduceLE, Int.reduceEq, reduceCtorEq, ↓reduceIte, g36, g50] at w52
          try simp -implicitDefEqProofs only [go_sem, Nat.reduceLT, Nat.reduceAdd, Nat.reduceSub, Nat.reduceMul, Nat.reduceEqDiff, Nat.reduceBEq, Nat.reduceLeDiff, Int.reduceToNat, Int.reduceLT, Int.reduceLE, Int.reduceEq, reduceCtorEq, ↓reduceIte, i8, c8, w2, b4, w6, w9, w15, w23, b25, w29, b31, w33, g36, take_of_len_map g36, w43, b45, w47, g50, take_of_len_map g50, w52]
          cases b54 : (ltI r53 0 : Bool)
          · replace h := br_f b54 h
            try simp -implicitDefEqProofs only [go_sem, Nat.reduceLT, Nat.reduceAdd, Nat.reduceSub, Nat.reduceMul, Nat.reduceEqDiff, Nat.reduceBEq, Nat.reduceLeDiff, Int.reduceToNat, Int.reduceLT, Int.reduceLE, Int.reduceEq, reduceCtorEq, ↓reduceIte, i8, c8, w2, b4, w6, w9, w15, w23, b25, w29, b31, w33, g36, take_of_len_map g36, w43, b45, w47, g50, take_of_len_map g50, w52, b54]
            cases b55 : (eqI r53 r48 : Bool)
            · replace h := br_f b55 h
              cases h
              simp -implicitDefEqProofs only [go_sem, Nat.reduceLT, Nat.reduceAdd, Nat.reduceSub, Nat.reduceMul, Nat.reduceEqDiff, Nat.reduceBEq, Nat.reduceLeDiff, Int.reduceToNat, Int.reduceLT, Int.reduceLE, Int.reduceEq, reduceCtorEq, ↓reduceIte, i8, c8, w2, b4, w6, w9, w15, w23, b25, w29, b31, w33, g36, take_of_len_map g36, w43, b45, w47, g50, take_of_len_map g50, w52, b54, b55]
            · replace h := br_t b55 h
              obtain ⟨v66, q64, h⟩ := bnd_some h
              have w65 := e8_3 r11 r48 r17 r10 r49 r16 v66 q64
              simp only [X8_3] at w65
              try simp -implicitDefEqProofs only [go_sem, Nat.reduceLT, Nat.reduceAdd, Nat.reduceSub, Nat.reduceMul, Nat.reduceEqDiff, Nat.reduceBEq, Nat.reduceLeDiff, Int.reduceToNat, Int.reduceLT, Int.reduceLE, Int.reduceEq, reduceCtorEq, ↓reduceIte, g36, g50] at w65
              try simp -implicitDefEqProofs only [go_sem, Nat.reduceLT, Nat.reduceAdd, Nat.reduceSub, Nat.reduceMul, Nat.reduceEqDiff, Nat.reduceBEq, Nat.reduceLeDiff, Int.reduceToNat, Int.reduceLT, Int.reduceLE, Int.reduceEq, reduceCtorEq, ↓reduceIte, i8, c8, w2, b4, w6, w9, w15, w23, b25, w29, b31, w33, g36, take_of_len_map g36, w43, b45, w47, g50, take_of_len_map g50, w52, b54, b55, w65]
              cases b67 : (v66 : Bool)
              · replace h := br_f b67 h
                cases h
                simp -implicitDefEqProofs only [go_sem, Nat.reduceLT, Nat.reduceAdd, Nat.reduceSub, Nat.reduceMul, Nat.reduceEqDiff, Nat.reduceBEq, Nat.reduceLeDiff, Int.reduceToNat, Int.reduceLT, Int.reduceLE, Int.reduceEq, reduceCtorEq, ↓reduceIte, i8, c8, w2, b4, w6, w9, w15, w23, b25, w29, b31, w33, g36, take_of_len_map g36, w43, b45, w47, g50, take_of_len_map g50, w52, b54, b55, w65, b67]
              · replace h := br_t b67 h
                cases h
                simp -implicitDefEqProofs only [go_sem, Nat.reduceLT, Nat.reduceAdd, Nat.reduceSub, Nat.reduceMul, Nat.reduceEqDiff, Nat.reduceBEq, Nat.reduceLeDiff, Int.reduceToNat, Int.reduceLT, Int.reduceLE, Int.reduceEq, reduceCtorEq, ↓reduceIte, i8, c8, w2, b4, w6, w9, w15, w23, b25, w29, b31, w33, g36, take_of_len_map g36, w43, b45, w47, g50, take_of_len_map g50, w52, b54, b55, w65, b67]
          · replace h := br_t b54 h
            cases h
            simp -implicitDefEqProofs only [go_sem, Nat.reduceLT, Nat.reduceAdd, Nat.reduceSub, Nat.reduceMul, Nat.reduceEqDiff, Nat.reduceBEq, Nat.reduceLeDiff, Int.reduceToNat, Int.reduceLT, Int.reduceLE, Int.reduceEq, reduceCtorEq, ↓reduceIte, i8, c8, w2, b4, w6, w9, w15, w23, b25, w29, b31, w33, g36, take_of_len_map g36, w43, b45, w47, g50, take_of_len_map g50, w52, b54]
        · replace h := br_t b45 h
          cases h
          simp -implicitDefEqProofs only [go_sem, Nat.reduceLT, Nat.reduceAdd, Nat.reduceSub, Nat.reduceMul, Nat.reduceEqDiff, Nat.reduceBEq, Nat.reduceLeDiff, Int.reduceToNat, Int.reduceLT, Int.reduceLE, Int.reduceEq, reduceCtorEq, ↓reduceIte, i8, c8, w2, b4, w6, w9, w15, w23, b25, w29, b31, w33, g36, take_of_len_map g36, w43, b45]
    · replace h := br_t b25 h
      cases h
      simp -implicitDefEqProofs only [go_sem, Nat.reduceLT, Nat.reduceAdd, Nat.reduceSub, Nat.reduceMul, Nat.reduceEqDiff, Nat.reduceBEq, Nat.reduceLeDiff, Int.reduceToNat, Int.reduceLT, Int.reduceLE, Int.reduceEq, reduceCtorEq, ↓reduceIte, i8, c8, w2, b4, w6, w9, w15, w23, b25]
  · replace h := br_t b4 h
    cases h
    simp -implicitDefEqProofs only [go_sem, Nat.reduceLT, Nat.reduceAdd, Nat.reduceSub, Nat.reduceMul, Nat.reduceEqDiff, Nat.reduceBEq, Nat.reduceLeDiff, Int.reduceToNat, Int.reduceLT, Int.reduceLE, Int.reduceEq, reduceCtorEq, ↓reduceIte, i8, c8, w2, b4]
end Go.Pi.Ytpfoleebeamgpaa.StableOnes
