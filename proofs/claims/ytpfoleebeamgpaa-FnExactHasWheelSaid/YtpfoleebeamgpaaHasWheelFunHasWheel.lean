/- What functions of the program answer, and that the law answers true at every input; no condition -/
import Derived.Test.YtpfoleebeamgpaaHasWheelFuaHasWheel
set_option linter.all false
/- Functions of the program: that the code answers as the plain functions do, the rest. -/
namespace Go.Pi.Ytpfoleebeamgpaa.HasWheel
open Go Go.Proofs Go.Pi
set_option maxRecDepth 100000
set_option linter.all false
-- f24 spec.HasWheel
theorem call24 (args : List AV) (S : St) : evCall T (evFL T) 24 args S = lendC (evFL T 24) S (lendAll S [[1]] args) := evCall0 fn24 rfl rfl args S
theorem callz24 (args : List AV) (S : St) : evCallFz T (evFL T) 24 args S = lendZ (evFL T 24) S [[0], [0]] (lendAll S [[1]] args) := evCallFz0 fn24 rfl rfl args S
attribute [go_sem] call24 callz24
noncomputable def X24_3 (s26 : Int) (a0 : Spp) (p5 : Int) (p33 : Int) (o : (Unit ⊕ Unit)) : Ex × Fr × St :=
  match o with
  | .inl o => (.exit 2, frOf 34 (upd (upd (upd (upd anyF 1 (.ptr 0 0 0)) 12 (.ts .imm 1 (a0.ranked.map (encLLInt .imm)))) 13 (.int .i64 p5)) 14 (.int .i64 s26)), [some ⟨.box, 1, [[.ts .imm 1 (a0.ranked.map (encLLInt .imm))]]⟩])
  | .inr o => (.ret, frOf 34 (upd (upd anyF 2 (.bool true)) 3 (.bool true)), [])
noncomputable def E24_3 (s26 : Int) (a0 : Spp) (p5 : Int) (p33 : Int) (s : Int) : Fr × St := (frOf 34 (upd (upd (upd (upd (upd (upd (upd anyF 1 (.ptr 0 0 0)) 4 (.int .i64 s26)) 12 (.ts .imm 1 (a0.ranked.map (encLLInt .imm)))) 13 (.int .i64 p5)) 14 (.int .i64 s26)) 20 (.int .i64 p33)) 21 (.int .i64 s)), [some ⟨.box, 1, [[.ts .imm 1 (a0.ranked.map (encLLInt .imm))]]⟩])
theorem b24_3 (s26 : Int) (a0 : Spp) (p5 : Int) (p33 : Int) (s : Int) (o : Ctl Int (Unit ⊕ Unit)) (h : m24_3b s26 a0 p33 s = some o) : evCL T 0 k24_3b (E24_3 s26 a0 p5 p33 s).1 (E24_3 s26 a0 p5 p33 s).2 = some (ctlX (E24_3 s26 a0 p5 p33) (X24_3 s26 a0 p5 p33) o) := by
  unfold m24_3b at h
  revert h
  generalize s = s39
  intro h
  try simp -implicitDefEqProofs only [go_sem, Nat.reduceLT, Nat.reduceAdd, Nat.reduceSub, Nat.reduceMul, Nat.reduceEqDiff, Nat.reduceBEq, Nat.reduceLeDiff, Int.reduceToNat, Int.reduceLT, Int.reduceLE, Int.reduceEq, reduceCtorEq, ↓reduceIte, E24_3, X24_3, k24_3b]
  cases b40 : (ltI s39 p33 : Bool)
  · replace h := br_f b40 h
    cases h
    simp -implicitDefEqProofs only [go_sem, Nat.reduceLT, Nat.reduceAdd, Nat.reduceSub, Nat.reduceMul, Nat.reduceEqDiff, Nat.reduceBEq, Nat.reduceLeDiff, Int.reduceToNat, Int.reduceLT, Int.reduceLE, Int.reduceEq, reduceCtorEq, ↓reduceIte, E24_3, X24_3, k24_3b, b40]
  · replace h := br_t b40 h
    obtain ⟨r43, q41, h⟩ := bnd_some h
    have w42 := e63 a0 (⟨wadd .i64 s26 1, s39⟩ : l10Pair) (⟨wadd .i64 s26 1, s39⟩ : l10Pair) r43 q41
    try simp -implicitDefEqProofs only [go_sem, Nat.reduceLT, Nat.reduceAdd, Nat.reduceSub, Nat.reduceMul, Nat.reduceEqDiff, Nat.reduceBEq, Nat.reduceLeDiff, Int.reduceToNat, Int.reduceLT, Int.reduceLE, Int.reduceEq, reduceCtorEq, ↓reduceIte] at w42
    try simp -implicitDefEqProofs only [go_sem, Nat.reduceLT, Nat.reduceAdd, Nat.reduceSub, Nat.reduceMul, Nat.reduceEqDiff, Nat.reduceBEq, Nat.reduceLeDiff, Int.reduceToNat, Int.reduceLT, Int.reduceLE, Int.reduceEq, reduceCtorEq, ↓reduceIte, E24_3, X24_3, k24_3b, b40, w42]
    cases b44 : (r43 : Bool)
    · replace h := br_f b44 h
      cases h
      simp -implicitDefEqProofs only [go_sem, Nat.reduceLT, Nat.reduceAdd, Nat.reduceSub, Nat.reduceMul, Nat.reduceEqDiff, Nat.reduceBEq, Nat.reduceLeDiff, Int.reduceToNat, Int.reduceLT, Int.reduceLE, Int.reduceEq, reduceCtorEq, ↓reduceIte, E24_3, X24_3, k24_3b, b40, w42, b44]
    · replace h := br_t b44 h
      cases h
      simp -implicitDefEqProofs only [go_sem, Nat.reduceLT, Nat.reduceAdd, Nat.reduceSub, Nat.reduceMul, Nat.reduceEqDiff, Nat.reduceBEq, Nat.reduceLeDiff, Int.reduceToNat, Int.reduceLT, Int.reduceLE, Int.reduceEq, reduceCtorEq, ↓reduceIte, E24_3, X24_3, k24_3b, b40, w42, b44]
theorem e24_3 (s26 : Int) (a0 : Spp) (p5 : Int) (p33 : Int) (s : Int) (o : (Unit ⊕ Unit)) (h : loopP (m24_3b s26 a0 p33) s = some o) : evCL T 0 (.loop k24_3b) (E24_3 s26 a0 p5 p33 s).1 (E24_3 s26 a0 p5 p33 s).2 = some (X24_3 s26 a0 p5 p33 o) :=
  loop_walk (E := E24_3 s26 a0 p5 p33) (X := X24_3 s26 a0 p5 p33) (by intro b; rcases b with b | b <;> (simp only [X24_3]; nofun)) (b24_3 s26 a0 p5 p33) s o h
noncomputable def X24_1 (a0 : Spp) (p5 : Int) (o : (Unit ⊕ Unit)) : Ex × Fr × St :=
  match o with
  | .inl o => (.exit 0, frOf 34 (anyF), [])
  | .inr o => (.ret, frOf 34 (upd (upd anyF 2 (.bool true)) 3 (.bool true)), [])
noncomputable def E24_1 (a0 : Spp) (p5 : Int) (s : Int) : Fr × St := (frOf 34 (upd (upd (upd (upd anyF 1 (.ptr 0 0 0)) 12 (.ts .imm 1 (a0.ranked.map (encLLInt .imm)))) 13 (.int .i64 p5)) 14 (.int .i64 s)), [some ⟨.box, 1, [[.ts .imm 1 (a0.ranked.map (encLLInt .imm))]]⟩])
theorem b24_1 (a0 : Spp) (p5 : Int) (s : Int) (o : Ctl Int (Unit ⊕ Unit)) (h : m24_1b a0 p5 s = some o) : evCL T 0 k24_1b (E24_1 a0 p5 s).1 (E24_1 a0 p5 s).2 = some (ctlX (E24_1 a0 p5) (X24_1 a0 p5) o) := by
  unfold m24_1b at h
  revert h
  generalize s = s26
  intro h
  try simp -implicitDefEqProofs only [go_sem, Nat.reduceLT, Nat.reduceAdd, Nat.reduceSub, Nat.reduceMul, Nat.reduceEqDiff, Nat.reduceBEq, Nat.reduceLeDiff, Int.reduceToNat, Int.reduceLT, Int.reduceLE, Int.reduceEq, reduceCtorEq, ↓reduceIte, E24_1, X24_1, k24_1b]
  cases b27 : (ltI s26 p5 : Bool)
  · replace h := br_f b27 h
    cases h
    simp -implicitDefEqProofs only [go_sem, Nat.reduceLT, Nat.reduceAdd, Nat.reduceSub, Nat.reduceMul, Nat.reduceEqDiff, Nat.reduceBEq, Nat.reduceLeDiff, Int.reduceToNat, Int.reduceLT, Int.reduceLE, Int.reduceEq, reduceCtorEq, ↓reduceIte, E24_1, X24_1, k24_1b, b27]
  · replace h := br_t b27 h
    obtain ⟨x28, q29, h⟩ := bnd_some h
    obtain ⟨g30, g31, g32⟩ := idx_row (encLLInt .imm) q29
    try simp -implicitDefEqProofs only [go_sem, Nat.reduceLT, Nat.reduceAdd, Nat.reduceSub, Nat.reduceMul, Nat.reduceEqDiff, Nat.reduceBEq, Nat.reduceLeDiff, Int.reduceToNat, Int.reduceLT, Int.reduceLE, Int.reduceEq, reduceCtorEq, ↓reduceIte] at g31
    try simp -implicitDefEqProofs only [go_sem, Nat.reduceLT, Nat.reduceAdd, Nat.reduceSub, Nat.reduceMul, Nat.reduceEqDiff, Nat.reduceBEq, Nat.reduceLeDiff, Int.reduceToNat, Int.reduceLT, Int.reduceLE, Int.reduceEq, reduceCtorEq, ↓reduceIte] at g32
    try simp -implicitDefEqProofs only [go_sem, Nat.reduceLT, Nat.reduceAdd, Nat.reduceSub, Nat.reduceMul, Nat.reduceEqDiff, Nat.reduceBEq, Nat.reduceLeDiff, Int.reduceToNat, Int.reduceLT, Int.reduceLE, Int.reduceEq, reduceCtorEq, ↓reduceIte, E24_1, X24_1, k24_1b, b27, g30, g31, g32]
    obtain ⟨o, q45, h⟩ := bnd_some h
    rcases o with ⟨⟩ | ⟨⟩
    · replace h := selS_l h
      have w46 := e24_3 s26 a0 p5 (↑x28.length : Int) 0 (.inl ()) q45
      simp only [E24_3, X24_3] at w46
      try simp -implicitDefEqProofs only [go_sem, Nat.reduceLT, Nat.reduceAdd, Nat.reduceSub, Nat.reduceMul, Nat.reduceEqDiff, Nat.reduceBEq, Nat.reduceLeDiff, Int.reduceToNat, Int.reduceLT, Int.reduceLE, Int.reduceEq, reduceCtorEq, ↓reduceIte] at w46
      cases h
      simp -implicitDefEqProofs only [go_sem, Nat.reduceLT, Nat.reduceAdd, Nat.reduceSub, Nat.reduceMul, Nat.reduceEqDiff, Nat.reduceBEq, Nat.reduceLeDiff, Int.reduceToNat, Int.reduceLT, Int.reduceLE, Int.reduceEq, reduceCtorEq, ↓reduceIte, E24_1, X24_1, k24_1b, b27, g30, g31, g32, w46]
    · replace h := selS_r h
      have w46 := e24_3 s26 a0 p5 (↑x28.length : Int) 0 (.inr ()) q45
      simp only [E24_3, X24_3] at w46
      try simp -implicitDefEqProofs only [go_sem, Nat.reduceLT, Nat.reduceAdd, Nat.reduceSub, Nat.reduceMul, Nat.reduceEqDiff, Nat.reduceBEq, Nat.reduceLeDiff, Int.reduceToNat, Int.reduceLT, Int.reduceLE, Int.reduceEq, reduceCtorEq, ↓reduceIte] at w46
      cases h
      simp -implicitDefEqProofs only [go_sem, Nat.reduceLT, Nat.reduceAdd, Nat.reduceSub, Nat.reduceMul, Nat.reduceEqDiff, Nat.reduceBEq, Nat.reduceLeDiff, Int.reduceToNat, Int.reduceLT, Int.reduceLE, Int.reduceEq, reduceCtorEq, ↓reduceIte, E24_1, X24_1, k24_1b, b27, g30, g31, g32, w46]
theorem e24_1 (a0 : Spp) (p5 : Int) (s : Int) (o : (Unit ⊕ Unit)) (h : loopP (m24_1b a0 p5) s = some o) : evCL T 0 (.loop k24_1b) (E24_1 a0 p5 s).1 (E24_1 a0 p5 s).2 = some (X24_1 a0 p5 o) :=
  loop_walk (E := E24_1 a0 p5) (X := X24_1 a0 p5) (by intro b; rcases b with b | b <;> (simp only [X24_1]; nofun)) (b24_1 a0 p5) s o h
theorem e24 (a0 : Spp) (r : (Bool × Bool)) (h : m24 a0 = some r) : evFL T 24 [.agg [.ts .imm 1 (a0.ranked.map (encLLInt .imm))]] [] = some (.tup [.bool r.1, .bool r.2], []) := by
  unfold m24 at h
  rw [evFL_at fn24 (Nat.le_of_ble_eq_true rfl) rfl (.inr rfl)]
  obtain ⟨r3, q1, h⟩ := bnd_some h
  have w2 := e14 a0 r3 q1
  try simp -implicitDefEqProofs only [go_sem, Nat.reduceLT, Nat.reduceAdd, Nat.reduceSub, Nat.reduceMul, Nat.reduceEqDiff, Nat.reduceBEq, Nat.reduceLeDiff, Int.reduceToNat, Int.reduceLT, Int.reduceLE, Int.reduceEq, reduceCtorEq, ↓reduceIte] at w2
  try simp -implicitDefEqProofs only [go_sem, Nat.reduceLT, Nat.reduceAdd, Nat.reduceSub, Nat.reduceMul, Nat.reduceEqDiff, Nat.reduceBEq, Nat.reduceLeDiff, Int.reduceToNat, Int.reduceLT, Int.reduceLE, Int.reduceEq, reduceCtorEq, ↓reduceIte, i24, c24, w2]
  cases b4 : (r3 : Bool)
  · replace h := br_f b4 h
    cases h
    simp -implicitDefEqProofs only [go_sem, Nat.reduceLT, Nat.reduceAdd, Nat.reduceSub, Nat.reduceMul, Nat.reduceEqDiff, Nat.reduceBEq, Nat.reduceLeDiff, Int.reduceToNat, Int.reduceLT, Int.reduceLE, Int.reduceEq, reduceCtorEq, ↓reduceIte, i24, c24, w2, b4]
  · replace h := br_t b4 h
    try simp -implicitDefEqProofs only [go_sem, Nat.reduceLT, Nat.reduceAdd, Nat.reduceSub, Nat.reduceMul, Nat.reduceEqDiff, Nat.reduceBEq, Nat.reduceLeDiff, Int.reduceToNat, Int.reduceLT, Int.reduceLE, Int.reduceEq, reduceCtorEq, ↓reduceIte, i24, c24, w2, b4]
    obtain ⟨o, q47, h⟩ := bnd_some h
    rcases o with ⟨⟩ | ⟨⟩
    · replace h := selS_l h
      have w48 := e24_1 a0 (↑a0.ranked.length : Int) 0 (.inl ()) q47
      simp only [E24_1, X24_1] at w48
      try simp -implicitDefEqProofs only [go_sem, Nat.reduceLT, Nat.reduceAdd, Nat.reduceSub, Nat.reduceMul, Nat.reduceEqDiff, Nat.reduceBEq, Nat.reduceLeDiff, Int.reduceToNat, Int.reduceLT, Int.reduceLE, Int.reduceEq, reduceCtorEq, ↓reduceIte] at w48
      cases h
      simp -implicitDefEqProofs only [go_sem, Nat.reduceLT, Nat.reduceAdd, Nat.reduceSub, Nat.reduceMul, Nat.reduceEqDiff, Nat.reduceBEq, Nat.reduceLeDiff, Int.reduceToNat, Int.reduceLT, Int.reduceLE, Int.reduceEq, reduceCtorEq, ↓reduceIte, i24, c24, w2, b4, w48]
    · replace h := selS_r h
      have w48 := e24_1 a0 (↑a0.ranked.length : Int) 0 (.inr ()) q47
      simp only [E24_1, X24_1] at w48
      try simp -implicitDefEqProofs only [go_sem, Nat.reduceLT, Nat.reduceAdd, Nat.reduceSub, Nat.reduceMul, Nat.reduceEqDiff, Nat.reduceBEq, Nat.reduceLeDiff, Int.reduceToNat, Int.reduceLT, Int.reduceLE, Int.reduceEq, reduceCtorEq, ↓reduceIte] at w48
      cases h
      simp -implicitDefEqProofs only [go_sem, Nat.reduceLT, Nat.reduceAdd, Nat.reduceSub, Nat.reduceMul, Nat.reduceEqDiff, Nat.reduceBEq, Nat.reduceLeDiff, Int.reduceToNat, Int.reduceLT, Int.reduceLE, Int.reduceEq, reduceCtorEq, ↓reduceIte, i24, c24, w2, b4, w48]
-- f51 impl.within
theorem call51 (args : List AV) (S : St) : evCall T (evFL T) 51 args S = lendC (evFL T 51) S (lendAll S [[0], [0], [0]] args) := evCall0 fn51 rfl rfl args S
theorem callz51 (args : List AV) (S : St) : evCallFz T (evFL T) 51 args S = lendZ (evFL T 51) S [[0]] (lendAll S [[0], [0], [0]] args) := evCallFz0 fn51 rfl rfl args S
attribute [go_sem] call51 callz51
noncomputable def X51_1 (a0 : Int) (a1 : Int) (a2 : Int) (o : Bool) : Ex × Fr × St :=
  (.normal, frOf 15 (upd anyF 6 (.bool o)), [])
theorem e51_1 (a0 : Int) (a1 : Int) (a2 : Int) (o : Bool) (h : m51_1 a0 a1 a2 = some o) : evCL T 0 k51_1 (frOf 15 (upd (upd (upd anyF 0 (.int .i64 a0)) 1 (.int .i64 a1)) 2 (.int .i64 a2))) [] = some (X51_1 a0 a1 a2 o) := by
  unfold m51_1 at h
  try simp -implicitDefEqProofs only [go_sem, Nat.reduceLT, Nat.reduceAdd, Nat.reduceSub, Nat.reduceMul, Nat.reduceEqDiff, Nat.reduceBEq, Nat.reduceLeDiff, Int.reduceToNat, Int.reduceLT, Int.reduceLE, Int.reduceEq, reduceCtorEq, ↓reduceIte, X51_1, k51_1]
  cases b1 : (leI a1 a0 : Bool)
  · replace h := br_f b1 h
    cases h
    simp -implicitDefEqProofs only [go_sem, Nat.reduceLT, Nat.reduceAdd, Nat.reduceSub, Nat.reduceMul, Nat.reduceEqDiff, Nat.reduceBEq, Nat.reduceLeDiff, Int.reduceToNat, Int.reduceLT, Int.reduceLE, Int.reduceEq, reduceCtorEq, ↓reduceIte, X51_1, k51_1, b1]
  · replace h := br_t b1 h
    cases h
    simp -implicitDefEqProofs only [go_sem, Nat.reduceLT, Nat.reduceAdd, Nat.reduceSub, Nat.reduceMul, Nat.reduceEqDiff, Nat.reduceBEq, Nat.reduceLeDiff, Int.reduceToNat, Int.reduceLT, Int.reduceLE, Int.reduceEq, reduceCtorEq, ↓reduceIte, X51_1, k51_1, b1]
theorem e51 (a0 : Int) (a1 : Int) (a2 : Int) (r : Bool) (h : m51 a0 a1 a2 = some r) : evFL T 51 [.int .i64 a0, .int .i64 a1, .int .i64 a2] [] = some (.bool r, []) := by
  unfold m51 at h
  rw [evFL_at fn51 (Nat.le_of_ble_eq_true rfl) rfl (.inr rfl)]
  obtain ⟨v4, q2, h⟩ := bnd_some h
  have w3 := e51_1 a0 a1 a2 v4 q2
  simp only [X51_1] at w3
  try simp -implicitDefEqProofs only [go_sem, Nat.reduceLT, Nat.reduceAdd, Nat.reduceSub, Nat.reduceMul, Nat.reduceEqDiff, Nat.reduceBEq, Nat.reduceLeDiff, Int.reduceToNat, Int.reduceLT, Int.reduceLE, Int.reduceEq, reduceCtorEq, ↓reduceIte] at w3
  cases h
  simp -implicitDefEqProofs only [go_sem, Nat.reduceLT, Nat.reduceAdd, Nat.reduceSub, Nat.reduceMul, Nat.reduceEqDiff, Nat.reduceBEq, Nat.reduceLeDiff, Int.reduceToNat, Int.reduceLT, Int.reduceLE, Int.reduceEq, reduceCtorEq, ↓reduceIte, i51, c51, w3]
-- f101 slices.Index[[]int,int]
theorem call101 (args : List AV) (S : St) : evCall T (evFL T) 101 args S = lendC (evFL T 101) S (lendAll S [[1], [0]] args) := evCall0 fn101 rfl rfl args S
theorem callz101 (args : List AV) (S : St) : evCallFz T (evFL T) 101 args S = lendZ (evFL T 101) S [[0]] (lendAll S [[1], [0]] args) := evCallFz0 fn101 rfl rfl args S
attribute [go_sem] call101 callz101
noncomputable def X101_1 (a0 : (List Int)) (a1 : Int) (p1 : Int) (o : (Unit ⊕ Int)) : Ex × Fr × St :=
  match o with
  | .inl o => (.exit 0, frOf 19 (anyF), [])
  | .inr o => (.ret, frOf 19 (upd anyF 4 (.int .i64 o)), [])
noncomputable def E101_1 (a0 : (List Int)) (a1 : Int) (p1 : Int) (s : Int) : Fr × St := (frOf 19 (upd (upd (upd (upd anyF 0 (.ts .imm 1 (a0.map encInt))) 1 (.int .i64 a1)) 7 (.int .i64 p1)) 8 (.int .i64 s)), [])
theorem b101_1 (a0 : (List Int)) (a1 : Int) (p1 : Int) (s : Int) (o : Ctl Int (Unit ⊕ Int)) (h : m101_1b a0 a1 p1 s = some o) : evCL T 0 k101_1b (E101_1 a0 a1 p1 s).1 (E101_1 a0 a1 p1 s).2 = some (ctlX (E101_1 a0 a1 p1) (X101_1 a0 a1 p1) o) := by
  unfold m101_1b at h
  revert h
  generalize s = s9
  intro h
  try simp -implicitDefEqProofs only [go_sem, Nat.reduceLT, Nat.reduceAdd, Nat.reduceSub, Nat.reduceMul, Nat.reduceEqDiff, Nat.reduceBEq, Nat.reduceLeDiff, Int.reduceToNat, Int.reduceLT, Int.reduceLE, Int.reduceEq, reduceCtorEq, ↓reduceIte, E101_1, X101_1, k101_1b]
  cases b10 : (ltI s9 p1 : Bool)
  · replace h := br_f b10 h
    cases h
    simp -implicitDefEqProofs only [go_sem, Nat.reduceLT, Nat.reduceAdd, Nat.reduceSub, Nat.reduceMul, Nat.reduceEqDiff, Nat.reduceBEq, Nat.reduceLeDiff, Int.reduceToNat, Int.reduceLT, Int.reduceLE, Int.reduceEq, reduceCtorEq, ↓reduceIte, E101_1, X101_1, k101_1b, b10]
  · replace h := br_t b10 h
    obtain ⟨x11, q12, h⟩ := bnd_some h
    obtain ⟨g13, g14, g15⟩ := idx_row encInt q12
    try simp -implicitDefEqProofs only [go_sem, Nat.reduceLT, Nat.reduceAdd, Nat.reduceSub, Nat.reduceMul, Nat.reduceEqDiff, Nat.reduceBEq, Nat.reduceLeDiff, Int.reduceToNat, Int.reduceLT, Int.reduceLE, Int.reduceEq, reduceCtorEq, ↓reduceIte] at g14
    try simp -implicitDefEqProofs only [go_sem, Nat.reduceLT, Nat.reduceAdd, Nat.reduceSub, Nat.reduceMul, Nat.reduceEqDiff, Nat.reduceBEq, Nat.reduceLeDiff, Int.reduceToNat, Int.reduceLT, Int.reduceLE, Int.reduceEq, reduceCtorEq, ↓reduceIte] at g15
    try simp -implicitDefEqProofs only [go_sem, Nat.reduceLT, Nat.reduceAdd, Nat.reduceSub, Nat.reduceMul, Nat.reduceEqDiff, Nat.reduceBEq, Nat.reduceLeDiff, Int.reduceToNat, Int.reduceLT, Int.reduceLE, Int.reduceEq, reduceCtorEq, ↓reduceIte, E101_1, X101_1, k101_1b, b10, g13, g14, g15]
    cases b16 : (eqI a1 x11 : Bool)
    · replace h := br_f b16 h
      cases h
      simp -implicitDefEqProofs only [go_sem, Nat.reduceLT, Nat.reduceAdd, Nat.reduceSub, Nat.reduceMul, Nat.reduceEqDiff, Nat.reduceBEq, Nat.reduceLeDiff, Int.reduceToNat, Int.reduceLT, Int.reduceLE, Int.reduceEq, reduceCtorEq, ↓reduceIte, E101_1, X101_1, k101_1b, b10, g13, g14, g15, b16]
    · replace h := br_t b16 h
      cases h
      simp -implicitDefEqProofs only [go_sem, Nat.reduceLT, Nat.reduceAdd, Nat.reduceSub, Nat.reduceMul, Nat.reduceEqDiff, Nat.reduceBEq, Nat.reduceLeDiff, Int.reduceToNat, Int.reduceLT, Int.reduceLE, Int.reduceEq, reduceCtorEq, ↓reduceIte, E101_1, X101_1, k101_1b, b10, g13, g14, g15, b16]
theorem e101_1 (a0 : (List Int)) (a1 : Int) (p1 : Int) (s : Int) (o : (Unit ⊕ Int)) (h : loopP (m101_1b a0 a1 p1) s = some o) : evCL T 0 (.loop k101_1b) (E101_1 a0 a1 p1 s).1 (E101_1 a0 a1 p1 s).2 = some (X101_1 a0 a1 p1 o) :=
  loop_walk (E := E101_1 a0 a1 p1) (X := X101_1 a0 a1 p1) (by intro b; rcases b with b | b <;> (simp only [X101_1]; nofun)) (b101_1 a0 a1 p1) s o h
theorem e101 (a0 : (List Int)) (a1 : Int) (r : Int) (h : m101 a0 a1 = some r) : evFL T 101 [.ts .imm 1 (a0.map encInt), .int .i64 a1] [] = some (.int .i64 r, []) := by
  unfold m101 at h
  rw [evFL_at fn101 (Nat.le_of_ble_eq_true rfl) rfl (.inr rfl)]
  try simp -implicitDefEqProofs only [go_sem, Nat.reduceLT, Nat.reduceAdd, Nat.reduceSub, Nat.reduceMul, Nat.reduceEqDiff, Nat.reduceBEq, Nat.reduceLeDiff, Int.reduceToNat, Int.reduceLT, Int.reduceLE, Int.reduceEq, reduceCtorEq, ↓reduceIte, i101, c101]
  obtain ⟨o, q17, h⟩ := bnd_some h
  rcases o with ⟨⟩ | v19
  · replace h := selS_l h
    have w18 := e101_1 a0 a1 (↑a0.length : Int) 0 (.inl ()) q17
    simp only [E101_1, X101_1] at w18
    try simp -implicitDefEqProofs only [go_sem, Nat.reduceLT, Nat.reduceAdd, Nat.reduceSub, Nat.reduceMul, Nat.reduceEqDiff, Nat.reduceBEq, Nat.reduceLeDiff, Int.reduceToNat, Int.reduceLT, Int.reduceLE, Int.reduceEq, reduceCtorEq, ↓reduceIte] at w18
    cases h
    simp -implicitDefEqProofs only [go_sem, Nat.reduceLT, Nat.reduceAdd, Nat.reduceSub, Nat.reduceMul, Nat.reduceEqDiff, Nat.reduceBEq, Nat.reduceLeDiff, Int.reduceToNat, Int.reduceLT, Int.reduceLE, Int.reduceEq, reduceCtorEq, ↓reduceIte, i101, c101, w18]
  · replace h := selS_r h
    have w18 := e101_1 a0 a1 (↑a0.length : Int) 0 (.inr v19) q17
    simp only [E101_1, X101_1] at w18
    try simp -implicitDefEqProofs only [go_sem, Nat.reduceLT, Nat.reduceAdd, Nat.reduceSub, Nat.reduceMul, Nat.reduceEqDiff, Nat.reduceBEq, Nat.reduceLeDiff, Int.reduceToNat, Int.reduceLT, Int.reduceLE, Int.reduceEq, reduceCtorEq, ↓reduceIte] at w18
    cases h
    simp -implicitDefEqProofs only [go_sem, Nat.reduceLT, Nat.reduceAdd, Nat.reduceSub, Nat.reduceMul, Nat.reduceEqDiff, Nat.reduceBEq, Nat.reduceLeDiff, Int.reduceToNat, Int.reduceLT, Int.reduceLE, Int.reduceEq, reduceCtorEq, ↓reduceIte, i101, c101, w18]
-- f89 slices.Contains[[]int,int]
theorem call89 (args : List AV) (S : St) : evCall T (evFL T) 89 args S = lendC (evFL T 89) S (lendAll S [[1], [0]] args) := evCall0 fn89 rfl rfl args S
theorem callz89 (args : List AV) (S : St) : evCallFz T (evFL T) 89 args S = lendZ (evFL T 89) S [[0]] (lendAll S [[1], [0]] args) := evCallFz0 fn89 rfl rfl args S
attribute [go_sem] call89 callz89
theorem e89 (a0 : (List Int)) (a1 : Int) (r : Bool) (h : m89 a0 a1 = some r) : evFL T 89 [.ts .imm 1 (a0.map encInt), .int .i64 a1] [] = some (.bool r, []) := by
  unfold m89 at h
  rw [evFL_at fn89 (Nat.le_of_ble_eq_true rfl) rfl (.inr rfl)]
  obtain ⟨r3, q1, h⟩ := bnd_some h
  have w2 := e101 a0 a1 r3 q1
  try simp -implicitDefEqProofs only [go_sem, Nat.reduceLT, Nat.reduceAdd, Nat.reduceSub, Nat.reduceMul, Nat.reduceEqDiff, Nat.reduceBEq, Nat.reduceLeDiff, Int.reduceToNat, Int.reduceLT, Int.reduceLE, Int.reduceEq, reduceCtorEq, ↓reduceIte] at w2
  cases h
  simp -implicitDefEqProofs only [go_sem, Nat.reduceLT, Nat.reduceAdd, Nat.reduceSub, Nat.reduceMul, Nat.reduceEqDiff, Nat.reduceBEq, Nat.reduceLeDiff, Int.reduceToNat, Int.reduceLT, Int.reduceLE, Int.reduceEq, reduceCtorEq, ↓reduceIte, i89, c89, w2]
-- f91 slices.IndexFunc[[][]int,[]int]
theorem call91 (args : List AV) (S : St) : evCall T (evFL T) 91 args S = lendC (evFL T 91) S (lendAll S [[1], [0]] args) := evCall0 fn91 rfl rfl args S
theorem callz91 (args : List AV) (S : St) : evCallFz T (evFL T) 91 args S = lendZ (evFL T 91) S [[0]] (lendAll S [[1], [0]] args) := evCallFz0 fn91 rfl rfl args S
attribute [go_sem] call91 callz91
noncomputable def X91_1 (a1_f : Nat) (a1_c : List AV) (a0 : (List (List Int))) (p1 : Int) (a1 : ((List Int) → Option Bool)) (o : (Unit ⊕ Int)) : Ex × Fr × St :=
  match o with
  | .inl o => (.exit 0, frOf 19 (anyF), [])
  | .inr o => (.ret, frOf 19 (upd anyF 4 (.int .i64 o)), [])
noncomputable def E91_1 (a1_f : Nat) (a1_c : List AV) (a0 : (List (List Int))) (p1 : Int) (a1 : ((List Int) → Option Bool)) (s : Int) : Fr × St := (frOf 19 (upd (upd (upd (upd anyF 0 (.ts .imm 1 (a0.map (encLInt .imm)))) 1 (.fn a1_f a1_c)) 7 (.int .i64 p1)) 8 (.int .i64 s)), [])
theorem b91_1 (a0 : (List (List Int))) (p1 : Int) (a1 : ((List Int) → Option Bool)) (a1_f : Nat) (a1_c : List AV) (a1_h : ((∀ S, mapO (lendPtr S) a1_c = some a1_c) ∧ (∀ n0 src R tm t c, tdL n0 src R tm t c a1_c = some a1_c)) ∧ ∀ y0 r, a1 y0 = some r → (∀ S, evCall T (evFL T) a1_f ([.ts .imm 1 (y0.map encInt)] ++ a1_c) S = some (.bool r, S)) ∧ (∀ S, evCallFz T (evFL T) a1_f ([.ts .imm 1 (y0.map encInt)] ++ a1_c) S = some (.bool r, S))) (s : Int) (o : Ctl Int (Unit ⊕ Int)) (h : m91_1b a0 p1 a1 s = some o) : evCL T 0 k91_1b (E91_1 a1_f a1_c a0 p1 a1 s).1 (E91_1 a1_f a1_c a0 p1 a1 s).2 = some (ctlX (E91_1 a1_f a1_c a0 p1 a1) (X91_1 a1_f a1_c a0 p1 a1) o) := by
  unfold m91_1b at h
  revert h
  generalize s = s12
  intro h
  try simp -implicitDefEqProofs only [go_sem, Nat.reduceLT, Nat.reduceAdd, Nat.reduceSub, Nat.reduceMul, Nat.reduceEqDiff, Nat.reduceBEq, Nat.reduceLeDiff, Int.reduceToNat, Int.reduceLT, Int.reduceLE, Int.reduceEq, reduceCtorEq, ↓reduceIte, E91_1, X91_1, k91_1b, a1_h.1]
  cases b13 : (ltI s12 p1 : Bool)
  · replace h := br_f b13 h
    cases h
    simp -implicitDefEqProofs only [go_sem, Nat.reduceLT, Nat.reduceAdd, Nat.reduceSub, Nat.reduceMul, Nat.reduceEqDiff, Nat.reduceBEq, Nat.reduceLeDiff, Int.reduceToNat, Int.reduceLT, Int.reduceLE, Int.reduceEq, reduceCtorEq, ↓reduceIte, E91_1, X91_1, k91_1b, a1_h.1, b13]
  · replace h := br_t b13 h
    obtain ⟨x14, q15, h⟩ := bnd_some h
    obtain ⟨g16, g17, g18⟩ := idx_row (encLInt .imm) q15
    try simp -implicitDefEqProofs only [go_sem, Nat.reduceLT, Nat.reduceAdd, Nat.reduceSub, Nat.reduceMul, Nat.reduceEqDiff, Nat.reduceBEq, Nat.reduceLeDiff, Int.reduceToNat, Int.reduceLT, Int.reduceLE, Int.reduceEq, reduceCtorEq, ↓reduceIte] at g17
    try simp -implicitDefEqProofs only [go_sem, Nat.reduceLT, Nat.reduceAdd, Nat.reduceSub, Nat.reduceMul, Nat.reduceEqDiff, Nat.reduceBEq, Nat.reduceLeDiff, Int.reduceToNat, Int.reduceLT, Int.reduceLE, Int.reduceEq, reduceCtorEq, ↓reduceIte] at g18
    obtain ⟨r19, q20, h⟩ := bnd_some h
    have w21 := a1_h.2 x14 r19 q20
    try simp -implicitDefEqProofs only [go_sem, Nat.reduceLT, Nat.reduceAdd, Nat.reduceSub, Nat.reduceMul, Nat.reduceEqDiff, Nat.reduceBEq, Nat.reduceLeDiff, Int.reduceToNat, Int.reduceLT, Int.reduceLE, Int.reduceEq, reduceCtorEq, ↓reduceIte] at w21
    try simp -implicitDefEqProofs only [go_sem, Nat.reduceLT, Nat.reduceAdd, Nat.reduceSub, Nat.reduceMul, Nat.reduceEqDiff, Nat.reduceBEq, Nat.reduceLeDiff, Int.reduceToNat, Int.reduceLT, Int.reduceLE, Int.reduceEq, reduceCtorEq, ↓reduceIte, E91_1, X91_1, k91_1b, a1_h.1, b13, g16, g17, g18, w21.1, w21.2]
    cases b22 : (r19 : Bool)
    · replace h := br_f b22 h
      cases h
      simp -implicitDefEqProofs only [go_sem, Nat.reduceLT, Nat.reduceAdd, Nat.reduceSub, Nat.reduceMul, Nat.reduceEqDiff, Nat.reduceBEq, Nat.reduceLeDiff, Int.reduceToNat, Int.reduceLT, Int.reduceLE, Int.reduceEq, reduceCtorEq, ↓reduceIte, E91_1, X91_1, k91_1b, a1_h.1, b13, g16, g17, g18, w21.1, w21.2, b22]
    · replace h := br_t b22 h
      cases h
      simp -implicitDefEqProofs only [go_sem, Nat.reduceLT, Nat.reduceAdd, Nat.reduceSub, Nat.reduceMul, Nat.reduceEqDiff, Nat.reduceBEq, Nat.reduceLeDiff, Int.reduceToNat, Int.reduceLT, Int.reduceLE, Int.reduceEq, reduceCtorEq, ↓reduceIte, E91_1, X91_1, k91_1b, a1_h.1, b13, g16, g17, g18, w21.1, w21.2, b22]
theorem e91_1 (a0 : (List (List Int))) (p1 : Int) (a1 : ((List Int) → Option Bool)) (a1_f : Nat) (a1_c : List AV) (a1_h : ((∀ S, mapO (lendPtr S) a1_c = some a1_c) ∧ (∀ n0 src R tm t c, tdL n0 src R tm t c a1_c = some a1_c)) ∧ ∀ y0 r, a1 y0 = some r → (∀ S, evCall T (evFL T) a1_f ([.ts .imm 1 (y0.map encInt)] ++ a1_c) S = some (.bool r, S)) ∧ (∀ S, evCallFz T (evFL T) a1_f ([.ts .imm 1 (y0.map encInt)] ++ a1_c) S = some (.bool r, S))) (s : Int) (o : (Unit ⊕ Int)) (h : loopP (m91_1b a0 p1 a1) s = some o) : evCL T 0 (.loop k91_1b) (E91_1 a1_f a1_c a0 p1 a1 s).1 (E91_1 a1_f a1_c a0 p1 a1 s).2 = some (X91_1 a1_f a1_c a0 p1 a1 o) :=
  loop_walk (E := E91_1 a1_f a1_c a0 p1 a1) (X := X91_1 a1_f a1_c a0 p1 a1) (by intro b; rcases b with b | b <;> (simp only [X91_1]; nofun)) (b91_1 a0 p1 a1 a1_f a1_c a1_h) s o h
theorem e91 (a0 : (List (List Int))) (a1 : ((List Int) → Option Bool)) (a1_f : Nat) (a1_c : List AV) (a1_h : ((∀ S, mapO (lendPtr S) a1_c = some a1_c) ∧ (∀ n0 src R tm t c, tdL n0 src R tm t c a1_c = some a1_c)) ∧ ∀ y0 r, a1 y0 = some r → (∀ S, evCall T (evFL T) a1_f ([.ts .imm 1 (y0.map encInt)] ++ a1_c) S = some (.bool r, S)) ∧ (∀ S, evCallFz T (evFL T) a1_f ([.ts .imm 1 (y0.map encInt)] ++ a1_c) S = some (.bool r, S))) (r : Int) (h : m91 a0 a1 = some r) : evFL T 91 [.ts .imm 1 (a0.map (encLInt .imm)), .fn a1_f a1_c] [] = some (.int .i64 r, []) := by
  unfold m91 at h
  rw [evFL_at fn91 (Nat.le_of_ble_eq_true rfl) rfl (.inr rfl)]
  try simp -implicitDefEqProofs only [go_sem, Nat.reduceLT, Nat.reduceAdd, Nat.reduceSub, Nat.reduceMul, Nat.reduceEqDiff, Nat.reduceBEq, Nat.reduceLeDiff, Int.reduceToNat, Int.reduceLT, Int.reduceLE, Int.reduceEq, reduceCtorEq, ↓reduceIte, i91, c91, a1_h.1]
  obtain ⟨o, q23, h⟩ := bnd_some h
  rcases o with ⟨⟩ | v25
  · replace h := selS_l h
    have w24 := e91_1 a0 (↑a0.length : Int) a1 a1_f a1_c a1_h 0 (.inl ()) q23
    simp only [E91_1, X91_1] at w24
    try simp -implicitDefEqProofs only [go_sem, Nat.reduceLT, Nat.reduceAdd, Nat.reduceSub, Nat.reduceMul, Nat.reduceEqDiff, Nat.reduceBEq, Nat.reduceLeDiff, Int.reduceToNat, Int.reduceLT, Int.reduceLE, Int.reduceEq, reduceCtorEq, ↓reduceIte] at w24
    cases h
    simp -implicitDefEqProofs only [go_sem, Nat.reduceLT, Nat.reduceAdd, Nat.reduceSub, Nat.reduceMul, Nat.reduceEqDiff, Nat.reduceBEq, Nat.reduceLeDiff, Int.reduceToNat, Int.reduceLT, Int.reduceLE, Int.reduceEq, reduceCtorEq, ↓reduceIte, i91, c91, a1_h.1, w24]
  · replace h := selS_r h
    have w24 := e91_1 a0 (↑a0.length : Int) a1 a1_f a1_c a1_h 0 (.inr v25) q23
    simp only [E91_1, X91_1] at w24
    try simp -implicitDefEqProofs only [go_sem, Nat.reduceLT, Nat.reduceAdd, Nat.reduceSub, Nat.reduceMul, Nat.reduceEqDiff, Nat.reduceBEq, Nat.reduceLeDiff, Int.reduceToNat, Int.reduceLT, Int.reduceLE, Int.reduceEq, reduceCtorEq, ↓reduceIte] at w24
    cases h
    simp -implicitDefEqProofs only [go_sem, Nat.reduceLT, Nat.reduceAdd, Nat.reduceSub, Nat.reduceMul, Nat.reduceEqDiff, Nat.reduceBEq, Nat.reduceLeDiff, Int.reduceToNat, Int.reduceLT, Int.reduceLE, Int.reduceEq, reduceCtorEq, ↓reduceIte, i91, c91, a1_h.1, w24]
-- f53 slices.ContainsFunc[[][]int,[]int]
theorem call53 (args : List AV) (S : St) : evCall T (evFL T) 53 args S = lendC (evFL T 53) S (lendAll S [[1], [0]] args) := evCall0 fn53 rfl rfl args S
theorem callz53 (args : List AV) (S : St) : evCallFz T (evFL T) 53 args S = lendZ (evFL T 53) S [[0]] (lendAll S [[1], [0]] args) := evCallFz0 fn53 rfl rfl args S
attribute [go_sem] call53 callz53
theorem e53 (a0 : (List (List Int))) (a1 : ((List Int) → Option Bool)) (a1_f : Nat) (a1_c : List AV) (a1_h : ((∀ S, mapO (lendPtr S) a1_c = some a1_c) ∧ (∀ n0 src R tm t c, tdL n0 src R tm t c a1_c = some a1_c)) ∧ ∀ y0 r, a1 y0 = some r → (∀ S, evCall T (evFL T) a1_f ([.ts .imm 1 (y0.map encInt)] ++ a1_c) S = some (.bool r, S)) ∧ (∀ S, evCallFz T (evFL T) a1_f ([.ts .imm 1 (y0.map encInt)] ++ a1_c) S = some (.bool r, S))) (r : Bool) (h : m53 a0 a1 = some r) : evFL T 53 [.ts .imm 1 (a0.map (encLInt .imm)), .fn a1_f a1_c] [] = some (.bool r, []) := by
  unfold m53 at h
  rw [evFL_at fn53 (Nat.le_of_ble_eq_true rfl) rfl (.inr rfl)]
  obtain ⟨r3, q1, h⟩ := bnd_some h
  have w2 := e91 a0 a1 a1_f a1_c a1_h r3 q1
  try simp -implicitDefEqProofs only [go_sem, Nat.reduceLT, Nat.reduceAdd, Nat.reduceSub, Nat.reduceMul, Nat.reduceEqDiff, Nat.reduceBEq, Nat.reduceLeDiff, Int.reduceToNat, Int.reduceLT, Int.reduceLE, Int.reduceEq, reduceCtorEq, ↓reduceIte] at w2
  cases h
  simp -implicitDefEqProofs only [go_sem, Nat.reduceLT, Nat.reduceAdd, Nat.reduceSub, Nat.reduceMul, Nat.reduceEqDiff, Nat.reduceBEq, Nat.reduceLeDiff, Int.reduceToNat, Int.reduceLT, Int.reduceLE, Int.reduceEq, reduceCtorEq, ↓reduceIte, i53, c53, a1_h.1, w2]
-- f55 slices.Equal[[]int,int]
theorem call55 (args : List AV) (S : St) : evCall T (evFL T) 55 args S = lendC (evFL T 55) S (lendAll S [[1], [1]] args) := evCall0 fn55 rfl rfl args S
theorem callz55 (args : List AV) (S : St) : evCallFz T (evFL T) 55 args S = lendZ (evFL T 55) S [[0]] (lendAll S [[1], [1]] args) := evCallFz0 fn55 rfl rfl args S
attribute [go_sem] call55 callz55
noncomputable def X55_1 (a0 : (List Int)) (a1 : (List Int)) (p2 : Int) (o : (Unit ⊕ Unit)) : Ex × Fr × St :=
  match o with
  | .inl o => (.exit 0, frOf 26 (anyF), [])
  | .inr o => (.ret, frOf 26 (upd anyF 4 (.bool false)), [])
noncomputable def E55_1 (a0 : (List Int)) (a1 : (List Int)) (p2 : Int) (s : Int) : Fr × St := (frOf 26 (upd (upd (upd (upd anyF 0 (.ts .imm 1 (a0.map encInt))) 1 (.ts .imm 1 (a1.map encInt))) 12 (.int .i64 p2)) 13 (.int .i64 s)), [])
theorem b55_1 (a0 : (List Int)) (a1 : (List Int)) (p2 : Int) (s : Int) (o : Ctl Int (Unit ⊕ Unit)) (h : m55_1b a0 a1 p2 s = some o) : evCL T 0 k55_1b (E55_1 a0 a1 p2 s).1 (E55_1 a0 a1 p2 s).2 = some (ctlX (E55_1 a0 a1 p2) (X55_1 a0 a1 p2) o) := by
  unfold m55_1b at h
  revert h
  generalize s = s15
  intro h
  try simp -implicitDefEqProofs only [go_sem, Nat.reduceLT, Nat.reduceAdd, Nat.reduceSub, Nat.reduceMul, Nat.reduceEqDiff, Nat.reduceBEq, Nat.reduceLeDiff, Int.reduceToNat, Int.reduceLT, Int.reduceLE, Int.reduceEq, reduceCtorEq, ↓reduceIte, E55_1, X55_1, k55_1b]
  cases b16 : (ltI s15 p2 : Bool)
  · replace h := br_f b16 h
    cases h
    simp -implicitDefEqProofs only [go_sem, Nat.reduceLT, Nat.reduceAdd, Nat.reduceSub, Nat.reduceMul, Nat.reduceEqDiff, Nat.reduceBEq, Nat.reduceLeDiff, Int.reduceToNat, Int.reduceLT, Int.reduceLE, Int.reduceEq, reduceCtorEq, ↓reduceIte, E55_1, X55_1, k55_1b, b16]
  · replace h := br_t b16 h
    obtain ⟨x17, q18, h⟩ := bnd_some h
    obtain ⟨g19, g20, g21⟩ := idx_row encInt q18
    try simp -implicitDefEqProofs only [go_sem, Nat.reduceLT, Nat.reduceAdd, Nat.reduceSub, Nat.reduceMul, Nat.reduceEqDiff, Nat.reduceBEq, Nat.reduceLeDiff, Int.reduceToNat, Int.reduceLT, Int.reduceLE, Int.reduceEq, reduceCtorEq, ↓reduceIte] at g20
    try simp -implicitDefEqProofs only [go_sem, Nat.reduceLT, Nat.reduceAdd, Nat.reduceSub, Nat.reduceMul, Nat.reduceEqDiff, Nat.reduceBEq, Nat.reduceLeDiff, Int.reduceToNat, Int.reduceLT, Int.reduceLE, Int.reduceEq, reduceCtorEq, ↓reduceIte] at g21
    obtain ⟨x22, q23, h⟩ := bnd_some h
    obtain ⟨g24, g25, g26⟩ := idx_row encInt q23
    try simp -implicitDefEqProofs only [go_sem, Nat.reduceLT, Nat.reduceAdd, Nat.reduceSub, Nat.reduceMul, Nat.reduceEqDiff, Nat.reduceBEq, Nat.reduceLeDiff, Int.reduceToNat, Int.reduceLT, Int.reduceLE, Int.reduceEq, reduceCtorEq, ↓reduceIte] at g25
    try simp -implicitDefEqProofs only [go_sem, Nat.reduceLT, Nat.reduceAdd, Nat.reduceSub, Nat.reduceMul, Nat.reduceEqDiff, Nat.reduceBEq, Nat.reduceLeDiff, Int.reduceToNat, Int.reduceLT, Int.reduceLE, Int.reduceEq, reduceCtorEq, ↓reduceIte] at g26
    try simp -implicitDefEqProofs only [go_sem, Nat.reduceLT, Nat.reduceAdd, Nat.reduceSub, Nat.reduceMul, Nat.reduceEqDiff, Nat.reduceBEq, Nat.reduceLeDiff, Int.reduceToNat, Int.reduceLT, Int.reduceLE, Int.reduceEq, reduceCtorEq, ↓reduceIte, E55_1, X55_1, k55_1b, b16, g19, g20, g21, g24, g25, g26]
    cases b27 : (eqI x17 x22 : Bool)
    · replace h := br_f b27 h
      cases h
      simp -implicitDefEqProofs only [go_sem, Nat.reduceLT, Nat.reduceAdd, Nat.reduceSub, Nat.reduceMul, Nat.reduceEqDiff, Nat.reduceBEq, Nat.reduceLeDiff, Int.reduceToNat, Int.reduceLT, Int.reduceLE, Int.reduceEq, reduceCtorEq, ↓reduceIte, E55_1, X55_1, k55_1b, b16, g19, g20, g21, g24, g25, g26, b27]
    · replace h := br_t b27 h
      cases h
      simp -implicitDefEqProofs only [go_sem, Nat.reduceLT, Nat.reduceAdd, Nat.reduceSub, Nat.reduceMul, Nat.reduceEqDiff, Nat.reduceBEq, Nat.reduceLeDiff, Int.reduceToNat, Int.reduceLT, Int.reduceLE, Int.reduceEq, reduceCtorEq, ↓reduceIte, E55_1, X55_1, k55_1b, b16, g19, g20, g21, g24, g25, g26, b27]
theorem e55_1 (a0 : (List Int)) (a1 : (List Int)) (p2 : Int) (s : Int) (o : (Unit ⊕ Unit)) (h : loopP (m55_1b a0 a1 p2) s = some o) : evCL T 0 (.loop k55_1b) (E55_1 a0 a1 p2 s).1 (E55_1 a0 a1 p2 s).2 = some (X55_1 a0 a1 p2 o) :=
  loop_walk (E := E55_1 a0 a1 p2) (X := X55_1 a0 a1 p2) (by intro b; rcases b with b | b <;> (simp only [X55_1]; nofun)) (b55_1 a0 a1 p2) s o h
theorem e55 (a0 : (List Int)) (a1 : (List Int)) (r : Bool) (h : m55 a0 a1 = some r) : evFL T 55 [.ts .imm 1 (a0.map encInt), .ts .imm 1 (a1.map encInt)] [] = some (.bool r, []) := by
  unfold m55 at h
  rw [evFL_at fn55 (Nat.le_of_ble_eq_true rfl) rfl (.inr rfl)]
  try simp -implicitDefEqProofs only [go_sem, Nat.reduceLT, Nat.reduceAdd, Nat.reduceSub, Nat.reduceMul, Nat.reduceEqDiff, Nat.reduceBEq, Nat.reduceLeDiff, Int.reduceToNat, Int.reduceLT, Int.reduceLE, Int.reduceEq, reduceCtorEq, ↓reduceIte, i55, c55]
  cases b1 : (eqI (↑a0.length : Int) (↑a1.length : Int) : Bool)
  · replace h := br_f b1 h
    cases h
    simp -implicitDefEqProofs only [go_sem, Nat.reduceLT, Nat.reduceAdd, Nat.reduceSub, Nat.reduceMul, Nat.reduceEqDiff, Nat.reduceBEq, Nat.reduceLeDiff, Int.reduceToNat, Int.reduceLT, Int.reduceLE, Int.reduceEq, reduceCtorEq, ↓reduceIte, i55, c55, b1]
  · replace h := br_t b1 h
    try simp -implicitDefEqProofs only [go_sem, Nat.reduceLT, Nat.reduceAdd, Nat.reduceSub, Nat.reduceMul, Nat.reduceEqDiff, Nat.reduceBEq, Nat.reduceLeDiff, Int.reduceToNat, Int.reduceLT, Int.reduceLE, Int.reduceEq, reduceCtorEq, ↓reduceIte, i55, c55, b1]
    obtain ⟨o, q28, h⟩ := bnd_some h
    rcases o with ⟨⟩ | ⟨⟩
    · replace h := selS_l h
      have w29 := e55_1 a0 a1 (↑a0.length : Int) 0 (.inl ()) q28
      simp only [E55_1, X55_1] at w29
      try simp -implicitDefEqProofs only [go_sem, Nat.reduceLT, Nat.reduceAdd, Nat.reduceSub, Nat.reduceMul, Nat.reduceEqDiff, Nat.reduceBEq, Nat.reduceLeDiff, Int.reduceToNat, Int.reduceLT, Int.reduceLE, Int.reduceEq, reduceCtorEq, ↓reduceIte] at w29
      cases h
      simp -implicitDefEqProofs only [go_sem, Nat.reduceLT, Nat.reduceAdd, Nat.reduceSub, Nat.reduceMul, Nat.reduceEqDiff, Nat.reduceBEq, Nat.reduceLeDiff, Int.reduceToNat, Int.reduceLT, Int.reduceLE, Int.reduceEq, reduceCtorEq, ↓reduceIte, i55, c55, b1, w29]
    · replace h := selS_r h
      have w29 := e55_1 a0 a1 (↑a0.length : Int) 0 (.inr ()) q28
      simp only [E55_1, X55_1] at w29
      try simp -implicitDefEqProofs only [go_sem, Nat.reduceLT, Nat.reduceAdd, Nat.reduceSub, Nat.reduceMul, Nat.reduceEqDiff, Nat.reduceBEq, Nat.reduceLeDiff, Int.reduceToNat, Int.reduceLT, Int.reduceLE, Int.reduceEq, reduceCtorEq, ↓reduceIte] at w29
      cases h
      simp -implicitDefEqProofs only [go_sem, Nat.reduceLT, Nat.reduceAdd, Nat.reduceSub, Nat.reduceMul, Nat.reduceEqDiff, Nat.reduceBEq, Nat.reduceLeDiff, Int.reduceToNat, Int.reduceLT, Int.reduceLE, Int.reduceEq, reduceCtorEq, ↓reduceIte, i55, c55, b1, w29]
-- f90 impl.isWay$1
theorem call90 (args : List AV) (S : St) : evCall T (evFL T) 90 args S = lendC (evFL T 90) S (lendAll S [[1], [0]] args) := evCall0 fn90 rfl rfl args S
theorem callz90 (args : List AV) (S : St) : evCallFz T (evFL T) 90 args S = lendZ (evFL T 90) S [[0]] (lendAll S [[1], [0]] args) := evCallFz0 fn90 rfl rfl args S
attribute [go_sem] call90 callz90
theorem e90 (a0 : (List Int)) (a1 : (List Int)) (r : Bool) (h : m90 a0 a1 = some r) : evFL T 90 [.ts .imm 1 (a0.map encInt), .tp .imm 1 [[.ts .imm 1 (a1.map encInt)]] 0 0] [] = some (.bool r, []) := by
  unfold m90 at h
  rw [evFL_at fn90 (Nat.le_of_ble_eq_true rfl) rfl (.inr rfl)]
  obtain ⟨g1, h⟩ := ck_some h
  try simp -implicitDefEqProofs only [go_sem, Nat.reduceLT, Nat.reduceAdd, Nat.reduceSub, Nat.reduceMul, Nat.reduceEqDiff, Nat.reduceBEq, Nat.reduceLeDiff, Int.reduceToNat, Int.reduceLT, Int.reduceLE, Int.reduceEq, reduceCtorEq, ↓reduceIte] at g1
  obtain ⟨r4, q2, h⟩ := bnd_some h
  have w3 := e55 a0 (a1.drop 1) r4 q2
  try simp -implicitDefEqProofs only [go_sem, Nat.reduceLT, Nat.reduceAdd, Nat.reduceSub, Nat.reduceMul, Nat.reduceEqDiff, Nat.reduceBEq, Nat.reduceLeDiff, Int.reduceToNat, Int.reduceLT, Int.reduceLE, Int.reduceEq, reduceCtorEq, ↓reduceIte] at w3
  cases h
  simp -implicitDefEqProofs only [go_sem, Nat.reduceLT, Nat.reduceAdd, Nat.reduceSub, Nat.reduceMul, Nat.reduceEqDiff, Nat.reduceBEq, Nat.reduceLeDiff, Int.reduceToNat, Int.reduceLT, Int.reduceLE, Int.reduceEq, reduceCtorEq, ↓reduceIte, i90, c90, g1, w3]
-- f52 impl.isWay
theorem call52 (args : List AV) (S : St) : evCall T (evFL T) 52 args S = lendC (evFL T 52) S (lendAll S [[1], [0], [1]] args) := evCall0 fn52 rfl rfl args S
theorem callz52 (args : List AV) (S : St) : evCallFz T (evFL T) 52 args S = lendZ (evFL T 52) S [[0]] (lendAll S [[1], [0], [1]] args) := evCallFz0 fn52 rfl rfl args S
attribute [go_sem] call52 callz52
noncomputable def X52_1 (a1 : Int) (p1 : Int) (a0 : Spp) (a2 : (List Int)) (o : Bool) : Ex × Fr × St :=
  (.normal, frOf 69 (upd (upd (upd (upd anyF 3 (.ptr 0 0 0)) 5 (.ptr 1 0 0)) 7 (.int .i64 p1)) 28 (.bool o)), [some ⟨.box, 1, [[.ts .imm 1 (a0.ranked.map (encLLInt .imm))]]⟩, some ⟨.box, 1, [[.ts .imm 1 (a2.map encInt)]]⟩])
theorem e52_1 (a1 : Int) (p1 : Int) (a0 : Spp) (a2 : (List Int)) (o : Bool) (h : m52_1 a1 p1 a2 = some o) : evCL T 0 k52_1 (frOf 69 (upd (upd (upd (upd anyF 1 (.int .i64 a1)) 3 (.ptr 0 0 0)) 5 (.ptr 1 0 0)) 7 (.int .i64 p1))) [some ⟨.box, 1, [[.ts .imm 1 (a0.ranked.map (encLLInt .imm))]]⟩, some ⟨.box, 1, [[.ts .imm 1 (a2.map encInt)]]⟩] = some (X52_1 a1 p1 a0 a2 o) := by
  unfold m52_1 at h
  try simp -implicitDefEqProofs only [go_sem, Nat.reduceLT, Nat.reduceAdd, Nat.reduceSub, Nat.reduceMul, Nat.reduceEqDiff, Nat.reduceBEq, Nat.reduceLeDiff, Int.reduceToNat, Int.reduceLT, Int.reduceLE, Int.reduceEq, reduceCtorEq, ↓reduceIte, X52_1, k52_1]
  cases b2 : (ltI p1 1 : Bool)
  · replace h := br_f b2 h
    obtain ⟨x3, q4, h⟩ := bnd_some h
    obtain ⟨g5, g6, g7⟩ := idx_row encInt q4
    try simp -implicitDefEqProofs only [go_sem, Nat.reduceLT, Nat.reduceAdd, Nat.reduceSub, Nat.reduceMul, Nat.reduceEqDiff, Nat.reduceBEq, Nat.reduceLeDiff, Int.reduceToNat, Int.reduceLT, Int.reduceLE, Int.reduceEq, reduceCtorEq, ↓reduceIte] at g6
    try simp -implicitDefEqProofs only [go_sem, Nat.reduceLT, Nat.reduceAdd, Nat.reduceSub, Nat.reduceMul, Nat.reduceEqDiff, Nat.reduceBEq, Nat.reduceLeDiff, Int.reduceToNat, Int.reduceLT, Int.reduceLE, Int.reduceEq, reduceCtorEq, ↓reduceIte] at g7
    try simp -implicitDefEqProofs only [go_sem, Nat.reduceLT, Nat.reduceAdd, Nat.reduceSub, Nat.reduceMul, Nat.reduceEqDiff, Nat.reduceBEq, Nat.reduceLeDiff, Int.reduceToNat, Int.reduceLT, Int.reduceLE, Int.reduceEq, reduceCtorEq, ↓reduceIte, X52_1, k52_1, b2, g5, g6, g7]
    cases b8 : (eqI x3 a1 : Bool)
    · replace h := br_f b8 h
      cases h
      simp -implicitDefEqProofs only [go_sem, Nat.reduceLT, Nat.reduceAdd, Nat.reduceSub, Nat.reduceMul, Nat.reduceEqDiff, Nat.reduceBEq, Nat.reduceLeDiff, Int.reduceToNat, Int.reduceLT, Int.reduceLE, Int.reduceEq, reduceCtorEq, ↓reduceIte, X52_1, k52_1, b2, g5, g6, g7, b8]
    · replace h := br_t b8 h
      obtain ⟨x9, q10, h⟩ := bnd_some h
      obtain ⟨g11, g12, g13⟩ := idx_row encInt q10
      try simp -implicitDefEqProofs only [go_sem, Nat.reduceLT, Nat.reduceAdd, Nat.reduceSub, Nat.reduceMul, Nat.reduceEqDiff, Nat.reduceBEq, Nat.reduceLeDiff, Int.reduceToNat, Int.reduceLT, Int.reduceLE, Int.reduceEq, reduceCtorEq, ↓reduceIte] at g12
      try simp -implicitDefEqProofs only [go_sem, Nat.reduceLT, Nat.reduceAdd, Nat.reduceSub, Nat.reduceMul, Nat.reduceEqDiff, Nat.reduceBEq, Nat.reduceLeDiff, Int.reduceToNat, Int.reduceLT, Int.reduceLE, Int.reduceEq, reduceCtorEq, ↓reduceIte] at g13
      cases h
      simp -implicitDefEqProofs only [go_sem, Nat.reduceLT, Nat.reduceAdd, Nat.reduceSub, Nat.reduceMul, Nat.reduceEqDiff, Nat.reduceBEq, Nat.reduceLeDiff, Int.reduceToNat, Int.reduceLT, Int.reduceLE, Int.reduceEq, reduceCtorEq, ↓reduceIte, X52_1, k52_1, b2, g5, g6, g7, b8, g11, g12, g13]
  · replace h := br_t b2 h
    cases h
    simp -implicitDefEqProofs only [go_sem, Nat.reduceLT, Nat.reduceAdd, Nat.reduceSub, Nat.reduceMul, Nat.reduceEqDiff, Nat.reduceBEq, Nat.reduceLeDiff, Int.reduceToNat, Int.reduceLT, Int.reduceLE, Int.reduceEq, reduceCtorEq, ↓reduceIte, X52_1, k52_1, b2]
noncomputable def X52_4 (p18 : Int) (s43 : Int) (x45 : Int) (a2 : (List Int)) (p19 : Int) (a0 : Spp) (o : Bool) : Ex × Fr × St :=
  (.normal, frOf 69 (upd (upd (upd (upd (upd (upd (upd anyF 3 (.ptr 0 0 0)) 5 (.ptr 1 0 0)) 7 (.int .i64 p18)) 29 (.ts .imm 1 (a2.map encInt))) 30 (.int .i64 p19)) 31 (.int .i64 s43)) 53 (.bool o)), [some ⟨.box, 1, [[.ts .imm 1 (a0.ranked.map (encLLInt .imm))]]⟩, some ⟨.box, 1, [[.ts .imm 1 (a2.map encInt)]]⟩])
theorem e52_4 (p18 : Int) (s43 : Int) (x45 : Int) (a2 : (List Int)) (p19 : Int) (a0 : Spp) (o : Bool) (h : m52_4 p18 s43 x45 a2 a0 = some o) : evCL T 0 k52_4 (frOf 69 (upd (upd (upd (upd (upd (upd (upd (upd anyF 3 (.ptr 0 0 0)) 5 (.ptr 1 0 0)) 7 (.int .i64 p18)) 8 (.int .i64 s43)) 9 (.int .i64 x45)) 29 (.ts .imm 1 (a2.map encInt))) 30 (.int .i64 p19)) 31 (.int .i64 s43))) [some ⟨.box, 1, [[.ts .imm 1 (a0.ranked.map (encLLInt .imm))]]⟩, some ⟨.box, 1, [[.ts .imm 1 (a2.map encInt)]]⟩] = some (X52_4 p18 s43 x45 a2 p19 a0 o) := by
  unfold m52_4 at h
  try simp -implicitDefEqProofs only [go_sem, Nat.reduceLT, Nat.reduceAdd, Nat.reduceSub, Nat.reduceMul, Nat.reduceEqDiff, Nat.reduceBEq, Nat.reduceLeDiff, Int.reduceToNat, Int.reduceLT, Int.reduceLE, Int.reduceEq, reduceCtorEq, ↓reduceIte, X52_4, k52_4]
  cases b50 : (ltI s43 p18 : Bool)
  · replace h := br_f b50 h
    obtain ⟨g59, h⟩ := ck_some h
    try simp -implicitDefEqProofs only [go_sem, Nat.reduceLT, Nat.reduceAdd, Nat.reduceSub, Nat.reduceMul, Nat.reduceEqDiff, Nat.reduceBEq, Nat.reduceLeDiff, Int.reduceToNat, Int.reduceLT, Int.reduceLE, Int.reduceEq, reduceCtorEq, ↓reduceIte] at g59
    obtain ⟨r62, q60, h⟩ := bnd_some h
    have w61 := e89 (a2.take s43.toNat) x45 r62 q60
    try simp -implicitDefEqProofs only [go_sem, Nat.reduceLT, Nat.reduceAdd, Nat.reduceSub, Nat.reduceMul, Nat.reduceEqDiff, Nat.reduceBEq, Nat.reduceLeDiff, Int.reduceToNat, Int.reduceLT, Int.reduceLE, Int.reduceEq, reduceCtorEq, ↓reduceIte] at w61
    cases h
    simp -implicitDefEqProofs only [go_sem, Nat.reduceLT, Nat.reduceAdd, Nat.reduceSub, Nat.reduceMul, Nat.reduceEqDiff, Nat.reduceBEq, Nat.reduceLeDiff, Int.reduceToNat, Int.reduceLT, Int.reduceLE, Int.reduceEq, reduceCtorEq, ↓reduceIte, X52_4, k52_4, b50, g59, w61]
  · replace h := br_t b50 h
    obtain ⟨r53, q51, h⟩ := bnd_some h
    have w52 := e51 x45 1 (↑a0.ranked.length : Int) r53 q51
    try simp -implicitDefEqProofs only [go_sem, Nat.reduceLT, Nat.reduceAdd, Nat.reduceSub, Nat.reduceMul, Nat.reduceEqDiff, Nat.reduceBEq, Nat.reduceLeDiff, Int.reduceToNat, Int.reduceLT, Int.reduceLE, Int.reduceEq, reduceCtorEq, ↓reduceIte] at w52
    try simp -implicitDefEqProofs only [go_sem, Nat.reduceLT, Nat.reduceAdd, Nat.reduceSub, Nat.reduceMul, Nat.reduceEqDiff, Nat.reduceBEq, Nat.reduceLeDiff, Int.reduceToNat, Int.reduceLT, Int.reduceLE, Int.reduceEq, reduceCtorEq, ↓reduceIte, X52_4, k52_4, b50, w52]
    cases b54 : (r53 : Bool)
    · replace h := br_f b54 h
      cases h
      simp -implicitDefEqProofs only [go_sem, Nat.reduceLT, Nat.reduceAdd, Nat.reduceSub, Nat.reduceMul, Nat.reduceEqDiff, Nat.reduceBEq, Nat.reduceLeDiff, Int.reduceToNat, Int.reduceLT, Int.reduceLE, Int.reduceEq, reduceCtorEq, ↓reduceIte, X52_4, k52_4, b50, w52, b54]
    · replace h := br_t b54 h
      obtain ⟨g55, h⟩ := ck_some h
      try simp -implicitDefEqProofs only [go_sem, Nat.reduceLT, Nat.reduceAdd, Nat.reduceSub, Nat.reduceMul, Nat.reduceEqDiff, Nat.reduceBEq, Nat.reduceLeDiff, Int.reduceToNat, Int.reduceLT, Int.reduceLE, Int.reduceEq, reduceCtorEq, ↓reduceIte] at g55
      obtain ⟨r58, q56, h⟩ := bnd_some h
      have w57 := e89 (a2.take s43.toNat) x45 r58 q56
      try simp -implicitDefEqProofs only [go_sem, Nat.reduceLT, Nat.reduceAdd, Nat.reduceSub, Nat.reduceMul, Nat.reduceEqDiff, Nat.reduceBEq, Nat.reduceLeDiff, Int.reduceToNat, Int.reduceLT, Int.reduceLE, Int.reduceEq, reduceCtorEq, ↓reduceIte] at w57
      cases h
      simp -implicitDefEqProofs only [go_sem, Nat.reduceLT, Nat.reduceAdd, Nat.reduceSub, Nat.reduceMul, Nat.reduceEqDiff, Nat.reduceBEq, Nat.reduceLeDiff, Int.reduceToNat, Int.reduceLT, Int.reduceLE, Int.reduceEq, reduceCtorEq, ↓reduceIte, X52_4, k52_4, b50, w52, b54, g55, w57]
noncomputable def X52_2 (p18 : Int) (a2 : (List Int)) (p19 : Int) (a0 : Spp) (o : (Unit ⊕ Unit)) : Ex × Fr × St :=
  match o with
  | .inl o => (.exit 0, frOf 69 (upd (upd (upd anyF 3 (.ptr 0 0 0)) 5 (.ptr 1 0 0)) 7 (.int .i64 p18)), [some ⟨.box, 1, [[.ts .imm 1 (a0.ranked.map (encLLInt .imm))]]⟩, some ⟨.box, 1, [[.ts .imm 1 (a2.map encInt)]]⟩])
  | .inr o => (.ret, frOf 69 (upd anyF 6 (.bool false)), [])
noncomputable def E52_2 (p18 : Int) (a2 : (List Int)) (p19 : Int) (a0 : Spp) (s : Int) : Fr × St := (frOf 69 (upd (upd (upd (upd (upd (upd anyF 3 (.ptr 0 0 0)) 5 (.ptr 1 0 0)) 7 (.int .i64 p18)) 29 (.ts .imm 1 (a2.map encInt))) 30 (.int .i64 p19)) 31 (.int .i64 s)), [some ⟨.box, 1, [[.ts .imm 1 (a0.ranked.map (encLLInt .imm))]]⟩, some ⟨.box, 1, [[.ts .imm 1 (a2.map encInt)]]⟩])
theorem b52_2 (p18 : Int) (a2 : (List Int)) (p19 : Int) (a0 : Spp) (s : Int) (o : Ctl Int (Unit ⊕ Unit)) (h : m52_2b p18 a2 p19 a0 s = some o) : evCL T 0 k52_2b (E52_2 p18 a2 p19 a0 s).1 (E52_2 p18 a2 p19 a0 s).2 = some (ctlX (E52_2 p18 a2 p19 a0) (X52_2 p18 a2 p19 a0) o) := by
  unfold m52_2b at h
  revert h
  generalize s = s43
  intro h
  try simp -implicitDefEqProofs only [go_sem, Nat.reduceLT, Nat.reduceAdd, Nat.reduceSub, Nat.reduceMul, Nat.reduceEqDiff, Nat.reduceBEq, Nat.reduceLeDiff, Int.reduceToNat, Int.reduceLT, Int.reduceLE, Int.reduceEq, reduceCtorEq, ↓reduceIte, E52_2, X52_2, k52_2b]
  cases b44 : (ltI s43 p19 : Bool)
  · replace h := br_f b44 h
    cases h
    simp -implicitDefEqProofs only [go_sem, Nat.reduceLT, Nat.reduceAdd, Nat.reduceSub, Nat.reduceMul, Nat.reduceEqDiff, Nat.reduceBEq, Nat.reduceLeDiff, Int.reduceToNat, Int.reduceLT, Int.reduceLE, Int.reduceEq, reduceCtorEq, ↓reduceIte, E52_2, X52_2, k52_2b, b44]
  · replace h := br_t b44 h
    obtain ⟨x45, q46, h⟩ := bnd_some h
    obtain ⟨g47, g48, g49⟩ := idx_row encInt q46
    try simp -implicitDefEqProofs only [go_sem, Nat.reduceLT, Nat.reduceAdd, Nat.reduceSub, Nat.reduceMul, Nat.reduceEqDiff, Nat.reduceBEq, Nat.reduceLeDiff, Int.reduceToNat, Int.reduceLT, Int.reduceLE, Int.reduceEq, reduceCtorEq, ↓reduceIte] at g48
    try simp -implicitDefEqProofs only [go_sem, Nat.reduceLT, Nat.reduceAdd, Nat.reduceSub, Nat.reduceMul, Nat.reduceEqDiff, Nat.reduceBEq, Nat.reduceLeDiff, Int.reduceToNat, Int.reduceLT, Int.reduceLE, Int.reduceEq, reduceCtorEq, ↓reduceIte] at g49
    obtain ⟨v65, q63, h⟩ := bnd_some h
    have w64 := e52_4 p18 s43 x45 a2 p19 a0 v65 q63
    simp only [X52_4] at w64
    try simp -implicitDefEqProofs only [go_sem, Nat.reduceLT, Nat.reduceAdd, Nat.reduceSub, Nat.reduceMul, Nat.reduceEqDiff, Nat.reduceBEq, Nat.reduceLeDiff, Int.reduceToNat, Int.reduceLT, Int.reduceLE, Int.reduceEq, reduceCtorEq, ↓reduceIte] at w64
    try simp -implicitDefEqProofs only [go_sem, Nat.reduceLT, Nat.reduceAdd, Nat.reduceSub, Nat.reduceMul, Nat.reduceEqDiff, Nat.reduceBEq, Nat.reduceLeDiff, Int.reduceToNat, Int.reduceLT, Int.reduceLE, Int.reduceEq, reduceCtorEq, ↓reduceIte, E52_2, X52_2, k52_2b, b44, g47, g48, g49, w64]
    cases b66 : (v65 : Bool)
    · replace h := br_f b66 h
      cases h
      simp -implicitDefEqProofs only [go_sem, Nat.reduceLT, Nat.reduceAdd, Nat.reduceSub, Nat.reduceMul, Nat.reduceEqDiff, Nat.reduceBEq, Nat.reduceLeDiff, Int.reduceToNat, Int.reduceLT, Int.reduceLE, Int.reduceEq, reduceCtorEq, ↓reduceIte, E52_2, X52_2, k52_2b, b44, g47, g48, g49, w64, b66]
    · replace h := br_t b66 h
      cases h
      simp -implicitDefEqProofs only [go_sem, Nat.reduceLT, Nat.reduceAdd, Nat.reduceSub, Nat.reduceMul, Nat.reduceEqDiff, Nat.reduceBEq, Nat.reduceLeDiff, Int.reduceToNat, Int.reduceLT, Int.reduceLE, Int.reduceEq, reduceCtorEq, ↓reduceIte, E52_2, X52_2, k52_2b, b44, g47, g48, g49, w64, b66]
theorem e52_2 (p18 : Int) (a2 : (List Int)) (p19 : Int) (a0 : Spp) (s : Int) (o : (Unit ⊕ Unit)) (h : loopP (m52_2b p18 a2 p19 a0) s = some o) : evCL T 0 (.loop k52_2b) (E52_2 p18 a2 p19 a0 s).1 (E52_2 p18 a2 p19 a0 s).2 = some (X52_2 p18 a2 p19 a0 o) :=
  loop_walk (E := E52_2 p18 a2 p19 a0) (X := X52_2 p18 a2 p19 a0) (by intro b; rcases b with b | b <;> (simp only [X52_2]; nofun)) (b52_2 p18 a2 p19 a0) s o h
noncomputable def X52_5 (p69 : Int) (a0 : Spp) (a2 : (List Int)) (o : Bool) : Ex × Fr × St :=
  (.normal, frOf 69 (upd anyF 6 (.bool o)), [])
theorem e52_5 (p69 : Int) (a0 : Spp) (a2 : (List Int)) (o : Bool) (h : m52_5 p69 a0 a2 = some o) : evCL T 0 k52_5 (frOf 69 (upd (upd (upd anyF 3 (.ptr 0 0 0)) 5 (.ptr 1 0 0)) 7 (.int .i64 p69))) [some ⟨.box, 1, [[.ts .imm 1 (a0.ranked.map (encLLInt .imm))]]⟩, some ⟨.box, 1, [[.ts .imm 1 (a2.map encInt)]]⟩] = some (X52_5 p69 a0 a2 o) := by
  unfold m52_5 at h
  try simp -implicitDefEqProofs only [go_sem, Nat.reduceLT, Nat.reduceAdd, Nat.reduceSub, Nat.reduceMul, Nat.reduceEqDiff, Nat.reduceBEq, Nat.reduceLeDiff, Int.reduceToNat, Int.reduceLT, Int.reduceLE, Int.reduceEq, reduceCtorEq, ↓reduceIte, X52_5, k52_5]
  cases b70 : (eqI p69 1 : Bool)
  · replace h := br_f b70 h
    obtain ⟨x71, q72, h⟩ := bnd_some h
    obtain ⟨g73, g74, g75⟩ := idx_row encInt q72
    try simp -implicitDefEqProofs only [go_sem, Nat.reduceLT, Nat.reduceAdd, Nat.reduceSub, Nat.reduceMul, Nat.reduceEqDiff, Nat.reduceBEq, Nat.reduceLeDiff, Int.reduceToNat, Int.reduceLT, Int.reduceLE, Int.reduceEq, reduceCtorEq, ↓reduceIte] at g74
    try simp -implicitDefEqProofs only [go_sem, Nat.reduceLT, Nat.reduceAdd, Nat.reduceSub, Nat.reduceMul, Nat.reduceEqDiff, Nat.reduceBEq, Nat.reduceLeDiff, Int.reduceToNat, Int.reduceLT, Int.reduceLE, Int.reduceEq, reduceCtorEq, ↓reduceIte] at g75
    obtain ⟨x76, q77, h⟩ := bnd_some h
    obtain ⟨g78, g79, g80⟩ := idx_row (encLLInt .imm) q77
    try simp -implicitDefEqProofs only [go_sem, Nat.reduceLT, Nat.reduceAdd, Nat.reduceSub, Nat.reduceMul, Nat.reduceEqDiff, Nat.reduceBEq, Nat.reduceLeDiff, Int.reduceToNat, Int.reduceLT, Int.reduceLE, Int.reduceEq, reduceCtorEq, ↓reduceIte] at g79
    try simp -implicitDefEqProofs only [go_sem, Nat.reduceLT, Nat.reduceAdd, Nat.reduceSub, Nat.reduceMul, Nat.reduceEqDiff, Nat.reduceBEq, Nat.reduceLeDiff, Int.reduceToNat, Int.reduceLT, Int.reduceLE, Int.reduceEq, reduceCtorEq, ↓reduceIte] at g80
    obtain ⟨r83, q81, h⟩ := bnd_some h
    have w82 := e53 x76 (fun y0 => m90 y0 a2) 90 [.tp .imm 1 [[.ts .imm 1 (a2.map encInt)]] 0 0] ⟨⟨fun S => by simp -implicitDefEqProofs only [go_sem, Nat.reduceLT, Nat.reduceAdd, Nat.reduceSub, Nat.reduceMul, Nat.reduceEqDiff, Nat.reduceBEq, Nat.reduceLeDiff, Int.reduceToNat, Int.reduceLT, Int.reduceLE, Int.reduceEq, reduceCtorEq, ↓reduceIte], fun _ _ _ _ _ _ => by simp -implicitDefEqProofs only [go_sem, Nat.reduceLT, Nat.reduceAdd, Nat.reduceSub, Nat.reduceMul, Nat.reduceEqDiff, Nat.reduceBEq, Nat.reduceLeDiff, Int.reduceToNat, Int.reduceLT, Int.reduceLE, Int.reduceEq, reduceCtorEq, ↓reduceIte]⟩, fun y0 r h => ⟨fun S => by simp -implicitDefEqProofs only [go_sem, Nat.reduceLT, Nat.reduceAdd, Nat.reduceSub, Nat.reduceMul, Nat.reduceEqDiff, Nat.reduceBEq, Nat.reduceLeDiff, Int.reduceToNat, Int.reduceLT, Int.reduceLE, Int.reduceEq, reduceCtorEq, ↓reduceIte, e90 y0 a2 r h], fun S => by simp -implicitDefEqProofs only [go_sem, Nat.reduceLT, Nat.reduceAdd, Nat.reduceSub, Nat.reduceMul, Nat.reduceEqDiff, Nat.reduceBEq, Nat.reduceLeDiff, Int.reduceToNat, Int.reduceLT, Int.reduceLE, Int.reduceEq, reduceCtorEq, ↓reduceIte, e90 y0 a2 r h]⟩⟩ r83 q81
    try simp -implicitDefEqProofs only [go_sem, Nat.reduceLT, Nat.reduceAdd, Nat.reduceSub, Nat.reduceMul, Nat.reduceEqDiff, Nat.reduceBEq, Nat.reduceLeDiff, Int.reduceToNat, Int.reduceLT, Int.reduceLE, Int.reduceEq, reduceCtorEq, ↓reduceIte] at w82
    cases h
    simp -implicitDefEqProofs only [go_sem, Nat.reduceLT, Nat.reduceAdd, Nat.reduceSub, Nat.reduceMul, Nat.reduceEqDiff, Nat.reduceBEq, Nat.reduceLeDiff, Int.reduceToNat, Int.reduceLT, Int.reduceLE, Int.reduceEq, reduceCtorEq, ↓reduceIte, X52_5, k52_5, b70, g73, g74, g75, g78, g79, g80, w82]
  · replace h := br_t b70 h
    cases h
    simp -implicitDefEqProofs only [go_sem, Nat.reduceLT, Nat.reduceAdd, Nat.reduceSub, Nat.reduceMul, Nat.reduceEqDiff, Nat.reduceBEq, Nat.reduceLeDiff, Int.reduceToNat, Int.reduceLT, Int.reduceLE, Int.reduceEq, reduceCtorEq, ↓reduceIte, X52_5, k52_5, b70]
theorem e52 (a0 : Spp) (a1 : Int) (a2 : (List Int)) (r : Bool) (h : m52 a0 a1 a2 = some r) : evFL T 52 [.agg [.ts .imm 1 (a0.ranked.map (encLLInt .imm))], .int .i64 a1, .ts .imm 1 (a2.map encInt)] [] = some (.bool r, []) := by
  unfold m52 at h
  rw [evFL_at fn52 (Nat.le_of_ble_eq_true rfl) rfl (.inr rfl)]
  obtain ⟨v16, q14, h⟩ := bnd_some h
  have w15 := e52_1 a1 (wsub .i64 (↑a2.length : Int) 1) a0 a2 v16 q14
  simp only [X52_1] at w15
  try simp -implicitDefEqProofs only [go_sem, Nat.reduceLT, Nat.reduceAdd, Nat.reduceSub, Nat.reduceMul, Nat.reduceEqDiff, Nat.reduceBEq, Nat.reduceLeDiff, Int.reduceToNat, Int.reduceLT, Int.reduceLE, Int.reduceEq, reduceCtorEq, ↓reduceIte] at w15
  try simp -implicitDefEqProofs only [go_sem, Nat.reduceLT, Nat.reduceAdd, Nat.reduceSub, Nat.reduceMul, Nat.reduceEqDiff, Nat.reduceBEq, Nat.reduceLeDiff, Int.reduceToNat, Int.reduceLT, Int.reduceLE, Int.reduceEq, reduceCtorEq, ↓reduceIte, i52, c52, w15]
  cases b17 : (v16 : Bool)
  · replace h := br_f b17 h
    try simp -implicitDefEqProofs only [go_sem, Nat.reduceLT, Nat.reduceAdd, Nat.reduceSub, Nat.reduceMul, Nat.reduceEqDiff, Nat.reduceBEq, Nat.reduceLeDiff, Int.reduceToNat, Int.reduceLT, Int.reduceLE, Int.reduceEq, reduceCtorEq, ↓reduceIte, i52, c52, w15, b17]
    obtain ⟨o, q67, h⟩ := bnd_some h
    rcases o with ⟨⟩ | ⟨⟩
    · replace h := selS_l h
      have w68 := e52_2 (wsub .i64 (↑a2.length : Int) 1) a2 (↑a2.length : Int) a0 0 (.inl ()) q67
      simp only [E52_2, X52_2] at w68
      try simp -implicitDefEqProofs only [go_sem, Nat.reduceLT, Nat.reduceAdd, Nat.reduceSub, Nat.reduceMul, Nat.reduceEqDiff, Nat.reduceBEq, Nat.reduceLeDiff, Int.reduceToNat, Int.reduceLT, Int.reduceLE, Int.reduceEq, reduceCtorEq, ↓reduceIte] at w68
      obtain ⟨v86, q84, h⟩ := bnd_some h
      have w85 := e52_5 (wsub .i64 (↑a2.length : Int) 1) a0 a2 v86 q84
      simp only [X52_5] at w85
      try simp -implicitDefEqProofs only [go_sem, Nat.reduceLT, Nat.reduceAdd, Nat.reduceSub, Nat.reduceMul, Nat.reduceEqDiff, Nat.reduceBEq, Nat.reduceLeDiff, Int.reduceToNat, Int.reduceLT, Int.reduceLE, Int.reduceEq, reduceCtorEq, ↓reduceIte] at w85
      cases h
      simp -implicitDefEqProofs only [go_sem, Nat.reduceLT, Nat.reduceAdd, Nat.reduceSub, Nat.reduceMul, Nat.reduceEqDiff, Nat.reduceBEq, Nat.reduceLeDiff, Int.reduceToNat, Int.reduceLT, Int.reduceLE, Int.reduceEq, reduceCtorEq, ↓reduceIte, i52, c52, w15, b17, w68, w85]
    · replace h := selS_r h
      have w68 := e52_2 (wsub .i64 (↑a2.length : Int) 1) a2 (↑a2.length : Int) a0 0 (.inr ()) q67
      simp only [E52_2, X52_2] at w68
      try simp -implicitDefEqProofs only [go_sem, Nat.reduceLT, Nat.reduceAdd, Nat.reduceSub, Nat.reduceMul, Nat.reduceEqDiff, Nat.reduceBEq, Nat.reduceLeDiff, Int.reduceToNat, Int.reduceLT, Int.reduceLE, Int.reduceEq, reduceCtorEq, ↓reduceIte] at w68
      cases h
      simp -implicitDefEqProofs only [go_sem, Nat.reduceLT, Nat.reduceAdd, Nat.reduceSub, Nat.reduceMul, Nat.reduceEqDiff, Nat.reduceBEq, Nat.reduceLeDiff, Int.reduceToNat, Int.reduceLT, Int.reduceLE, Int.reduceEq, reduceCtorEq, ↓reduceIte, i52, c52, w15, b17, w68]
  · replace h := br_t b17 h
    cases h
    simp -implicitDefEqProofs only [go_sem, Nat.reduceLT, Nat.reduceAdd, Nat.reduceSub, Nat.reduceMul, Nat.reduceEqDiff, Nat.reduceBEq, Nat.reduceLeDiff, Int.reduceToNat, Int.reduceLT, Int.reduceLE, Int.reduceEq, reduceCtorEq, ↓reduceIte, i52, c52, w15, b17]
-- f54 impl.GoodSpp$1
theorem call54 (args : List AV) (S : St) : evCall T (evFL T) 54 args S = lendC (evFL T 54) S (lendAll S [[1], [0]] args) := evCall0 fn54 rfl rfl args S
theorem callz54 (args : List AV) (S : St) : evCallFz T (evFL T) 54 args S = lendZ (evFL T 54) S [[0]] (lendAll S [[1], [0]] args) := evCallFz0 fn54 rfl rfl args S
attribute [go_sem] call54 callz54
theorem e54 (a0 : (List Int)) (a1 : (List Int)) (r : Bool) (h : m54 a0 a1 = some r) : evFL T 54 [.ts .imm 1 (a0.map encInt), .tp .imm 1 [[.ts .imm 1 (a1.map encInt)]] 0 0] [] = some (.bool r, []) := by
  unfold m54 at h
  rw [evFL_at fn54 (Nat.le_of_ble_eq_true rfl) rfl (.inr rfl)]
  obtain ⟨r3, q1, h⟩ := bnd_some h
  have w2 := e55 a0 a1 r3 q1
  try simp -implicitDefEqProofs only [go_sem, Nat.reduceLT, Nat.reduceAdd, Nat.reduceSub, Nat.reduceMul, Nat.reduceEqDiff, Nat.reduceBEq, Nat.reduceLeDiff, Int.reduceToNat, Int.reduceLT, Int.reduceLE, Int.reduceEq, reduceCtorEq, ↓reduceIte] at w2
  cases h
  simp -implicitDefEqProofs only [go_sem, Nat.reduceLT, Nat.reduceAdd, Nat.reduceSub, Nat.reduceMul, Nat.reduceEqDiff, Nat.reduceBEq, Nat.reduceLeDiff, Int.reduceToNat, Int.reduceLT, Int.reduceLE, Int.reduceEq, reduceCtorEq, ↓reduceIte, i54, c54, w2]
-- f16 impl.GoodSpp
theorem call16 (args : List AV) (S : St) : evCall T (evFL T) 16 args S = lendC (evFL T 16) S (lendAll S [[1]] args) := evCall0 fn16 rfl rfl args S
theorem callz16 (args : List AV) (S : St) : evCallFz T (evFL T) 16 args S = lendZ (evFL T 16) S [[0]] (lendAll S [[1]] args) := evCallFz0 fn16 rfl rfl args S
attribute [go_sem] call16 callz16
noncomputable def X16_7 (s55 : Int) (x57 : (List (List Int))) (s83 : Int) (a0 : Spp) (p5 : Int) (p63 : Int) (x85 : (List Int)) (o : Bool) : Ex × Fr × St :=
  (.normal, frOf 50 (upd (upd (upd (upd (upd (upd (upd (upd (upd (upd anyF 1 (.ptr 0 0 0)) 3 (.int .i64 s55)) 4 (.ts .imm 1 (x57.map (encLInt .imm)))) 13 (.ts .imm 1 (a0.ranked.map (encLLInt .imm)))) 14 (.int .i64 p5)) 15 (.int .i64 s55)) 23 (.ts .imm 1 (x57.map (encLInt .imm)))) 24 (.int .i64 p63)) 25 (.int .i64 s83)) 47 (.bool o)), [some ⟨.box, 1, [[.ts .imm 1 (a0.ranked.map (encLLInt .imm))]]⟩])
theorem e16_7 (s55 : Int) (x57 : (List (List Int))) (s83 : Int) (a0 : Spp) (p5 : Int) (p63 : Int) (x85 : (List Int)) (o : Bool) (h : m16_7 s55 x57 s83 a0 x85 = some o) : evCL T 0 k16_7 (frOf 50 (upd (upd (upd (upd (upd (upd (upd (upd (upd (upd (upd anyF 1 (.ptr 0 0 0)) 3 (.int .i64 s55)) 4 (.ts .imm 1 (x57.map (encLInt .imm)))) 5 (.int .i64 s83)) 6 (.ptr 1 0 0)) 13 (.ts .imm 1 (a0.ranked.map (encLLInt .imm)))) 14 (.int .i64 p5)) 15 (.int .i64 s55)) 23 (.ts .imm 1 (x57.map (encLInt .imm)))) 24 (.int .i64 p63)) 25 (.int .i64 s83))) [some ⟨.box, 1, [[.ts .imm 1 (a0.ranked.map (encLLInt .imm))]]⟩, some ⟨.box, 1, [[.ts .imm 1 (x85.map encInt)]]⟩] = some (X16_7 s55 x57 s83 a0 p5 p63 x85 o) := by
  unfold m16_7 at h
  try simp -implicitDefEqProofs only [go_sem, Nat.reduceLT, Nat.reduceAdd, Nat.reduceSub, Nat.reduceMul, Nat.reduceEqDiff, Nat.reduceBEq, Nat.reduceLeDiff, Int.reduceToNat, Int.reduceLT, Int.reduceLE, Int.reduceEq, reduceCtorEq, ↓reduceIte, X16_7, k16_7]
  cases b90 : (ltI 6 (↑x85.length : Int) : Bool)
  · replace h := br_f b90 h
    obtain ⟨r93, q91, h⟩ := bnd_some h
    have w92 := e52 a0 (wadd .i64 s55 1) x85 r93 q91
    try simp -implicitDefEqProofs only [go_sem, Nat.reduceLT, Nat.reduceAdd, Nat.reduceSub, Nat.reduceMul, Nat.reduceEqDiff, Nat.reduceBEq, Nat.reduceLeDiff, Int.reduceToNat, Int.reduceLT, Int.reduceLE, Int.reduceEq, reduceCtorEq, ↓reduceIte] at w92
    try simp -implicitDefEqProofs only [go_sem, Nat.reduceLT, Nat.reduceAdd, Nat.reduceSub, Nat.reduceMul, Nat.reduceEqDiff, Nat.reduceBEq, Nat.reduceLeDiff, Int.reduceToNat, Int.reduceLT, Int.reduceLE, Int.reduceEq, reduceCtorEq, ↓reduceIte, X16_7, k16_7, b90, w92]
    cases b94 : (r93 : Bool)
    · replace h := br_f b94 h
      cases h
      simp -implicitDefEqProofs only [go_sem, Nat.reduceLT, Nat.reduceAdd, Nat.reduceSub, Nat.reduceMul, Nat.reduceEqDiff, Nat.reduceBEq, Nat.reduceLeDiff, Int.reduceToNat, Int.reduceLT, Int.reduceLE, Int.reduceEq, reduceCtorEq, ↓reduceIte, X16_7, k16_7, b90, w92, b94]
    · replace h := br_t b94 h
      obtain ⟨g95, h⟩ := ck_some h
      try simp -implicitDefEqProofs only [go_sem, Nat.reduceLT, Nat.reduceAdd, Nat.reduceSub, Nat.reduceMul, Nat.reduceEqDiff, Nat.reduceBEq, Nat.reduceLeDiff, Int.reduceToNat, Int.reduceLT, Int.reduceLE, Int.reduceEq, reduceCtorEq, ↓reduceIte] at g95
      obtain ⟨r98, q96, h⟩ := bnd_some h
      have w97 := e53 (x57.take s83.toNat) (fun y0 => m54 y0 x85) 54 [.tp .imm 1 [[.ts .imm 1 (x85.map encInt)]] 0 0] ⟨⟨fun S => by simp -implicitDefEqProofs only [go_sem, Nat.reduceLT, Nat.reduceAdd, Nat.reduceSub, Nat.reduceMul, Nat.reduceEqDiff, Nat.reduceBEq, Nat.reduceLeDiff, Int.reduceToNat, Int.reduceLT, Int.reduceLE, Int.reduceEq, reduceCtorEq, ↓reduceIte], fun _ _ _ _ _ _ => by simp -implicitDefEqProofs only [go_sem, Nat.reduceLT, Nat.reduceAdd, Nat.reduceSub, Nat.reduceMul, Nat.reduceEqDiff, Nat.reduceBEq, Nat.reduceLeDiff, Int.reduceToNat, Int.reduceLT, Int.reduceLE, Int.reduceEq, reduceCtorEq, ↓reduceIte]⟩, fun y0 r h => ⟨fun S => by simp -implicitDefEqProofs only [go_sem, Nat.reduceLT, Nat.reduceAdd, Nat.reduceSub, Nat.reduceMul, Nat.reduceEqDiff, Nat.reduceBEq, Nat.reduceLeDiff, Int.reduceToNat, Int.reduceLT, Int.reduceLE, Int.reduceEq, reduceCtorEq, ↓reduceIte, e54 y0 x85 r h], fun S => by simp -implicitDefEqProofs only [go_sem, Nat.reduceLT, Nat.reduceAdd, Nat.reduceSub, Nat.reduceMul, Nat.reduceEqDiff, Nat.reduceBEq, Nat.reduceLeDiff, Int.reduceToNat, Int.reduceLT, Int.reduceLE, Int.reduceEq, reduceCtorEq, ↓reduceIte, e54 y0 x85 r h]⟩⟩ r98 q96
      try simp -implicitDefEqProofs only [go_sem, Nat.reduceLT, Nat.reduceAdd, Nat.reduceSub, Nat.reduceMul, Nat.reduceEqDiff, Nat.reduceBEq, Nat.reduceLeDiff, Int.reduceToNat, Int.reduceLT, Int.reduceLE, Int.reduceEq, reduceCtorEq, ↓reduceIte] at w97
      cases h
      simp -implicitDefEqProofs only [go_sem, Nat.reduceLT, Nat.reduceAdd, Nat.reduceSub, Nat.reduceMul, Nat.reduceEqDiff, Nat.reduceBEq, Nat.reduceLeDiff, Int.reduceToNat, Int.reduceLT, Int.reduceLE, Int.reduceEq, reduceCtorEq, ↓reduceIte, X16_7, k16_7, b90, w92, b94, g95, w97]
  · replace h := br_t b90 h
    cases h
    simp -implicitDefEqProofs only [go_sem, Nat.reduceLT, Nat.reduceAdd, Nat.reduceSub, Nat.reduceMul, Nat.reduceEqDiff, Nat.reduceBEq, Nat.reduceLeDiff, Int.reduceToNat, Int.reduceLT, Int.reduceLE, Int.reduceEq, reduceCtorEq, ↓reduceIte, X16_7, k16_7, b90]
noncomputable def X16_5 (s55 : Int) (x57 : (List (List Int))) (a0 : Spp) (p5 : Int) (p63 : Int) (o : (Unit ⊕ Unit)) : Ex × Fr × St :=
  match o with
  | .inl o => (.exit 2, frOf 50 (upd (upd (upd (upd anyF 1 (.ptr 0 0 0)) 13 (.ts .imm 1 (a0.ranked.map (encLLInt .imm)))) 14 (.int .i64 p5)) 15 (.int .i64 s55)), [some ⟨.box, 1, [[.ts .imm 1 (a0.ranked.map (encLLInt .imm))]]⟩])
  | .inr o => (.ret, frOf 50 (upd anyF 2 (.bool false)), [])
noncomputable def E16_5 (s55 : Int) (x57 : (List (List Int))) (a0 : Spp) (p5 : Int) (p63 : Int) (s : Int) : Fr × St := (frOf 50 (upd (upd (upd (upd (upd (upd (upd (upd (upd anyF 1 (.ptr 0 0 0)) 3 (.int .i64 s55)) 4 (.ts .imm 1 (x57.map (encLInt .imm)))) 13 (.ts .imm 1 (a0.ranked.map (encLLInt .imm)))) 14 (.int .i64 p5)) 15 (.int .i64 s55)) 23 (.ts .imm 1 (x57.map (encLInt .imm)))) 24 (.int .i64 p63)) 25 (.int .i64 s)), [some ⟨.box, 1, [[.ts .imm 1 (a0.ranked.map (encLLInt .imm))]]⟩])
theorem b16_5 (s55 : Int) (x57 : (List (List Int))) (a0 : Spp) (p5 : Int) (p63 : Int) (s : Int) (o : Ctl Int (Unit ⊕ Unit)) (h : m16_5b s55 x57 a0 p63 s = some o) : evCL T 0 k16_5b (E16_5 s55 x57 a0 p5 p63 s).1 (E16_5 s55 x57 a0 p5 p63 s).2 = some (ctlX (E16_5 s55 x57 a0 p5 p63) (X16_5 s55 x57 a0 p5 p63) o) := by
  unfold m16_5b at h
  revert h
  generalize s = s83
  intro h
  try simp -implicitDefEqProofs only [go_sem, Nat.reduceLT, Nat.reduceAdd, Nat.reduceSub, Nat.reduceMul, Nat.reduceEqDiff, Nat.reduceBEq, Nat.reduceLeDiff, Int.reduceToNat, Int.reduceLT, Int.reduceLE, Int.reduceEq, reduceCtorEq, ↓reduceIte, E16_5, X16_5, k16_5b]
  cases b84 : (ltI s83 p63 : Bool)
  · replace h := br_f b84 h
    cases h
    simp -implicitDefEqProofs only [go_sem, Nat.reduceLT, Nat.reduceAdd, Nat.reduceSub, Nat.reduceMul, Nat.reduceEqDiff, Nat.reduceBEq, Nat.reduceLeDiff, Int.reduceToNat, Int.reduceLT, Int.reduceLE, Int.reduceEq, reduceCtorEq, ↓reduceIte, E16_5, X16_5, k16_5b, b84]
  · replace h := br_t b84 h
    obtain ⟨x85, q86, h⟩ := bnd_some h
    obtain ⟨g87, g88, g89⟩ := idx_row (encLInt .imm) q86
    try simp -implicitDefEqProofs only [go_sem, Nat.reduceLT, Nat.reduceAdd, Nat.reduceSub, Nat.reduceMul, Nat.reduceEqDiff, Nat.reduceBEq, Nat.reduceLeDiff, Int.reduceToNat, Int.reduceLT, Int.reduceLE, Int.reduceEq, reduceCtorEq, ↓reduceIte] at g88
    try simp -implicitDefEqProofs only [go_sem, Nat.reduceLT, Nat.reduceAdd, Nat.reduceSub, Nat.reduceMul, Nat.reduceEqDiff, Nat.reduceBEq, Nat.reduceLeDiff, Int.reduceToNat, Int.reduceLT, Int.reduceLE, Int.reduceEq, reduceCtorEq, ↓reduceIte] at g89
    obtain ⟨v101, q99, h⟩ := bnd_some h
    have w100 := e16_7 s55 x57 s83 a0 p5 p63 x85 v101 q99
    simp only [X16_7] at w100
    try simp -implicitDefEqProofs only [go_sem, Nat.reduceLT, Nat.reduceAdd, Nat.reduceSub, Nat.reduceMul, Nat.reduceEqDiff, Nat.reduceBEq, Nat.reduceLeDiff, Int.reduceToNat, Int.reduceLT, Int.reduceLE, Int.reduceEq, reduceCtorEq, ↓reduceIte] at w100
    try simp -implicitDefEqProofs only [go_sem, Nat.reduceLT, Nat.reduceAdd, Nat.reduceSub, Nat.reduceMul, Nat.reduceEqDiff, Nat.reduceBEq, Nat.reduceLeDiff, Int.reduceToNat, Int.reduceLT, Int.reduceLE, Int.reduceEq, reduceCtorEq, ↓reduceIte, E16_5, X16_5, k16_5b, b84, g87, g88, g89, w100]
    cases b102 : (v101 : Bool)
    · replace h := br_f b102 h
      cases h
      simp -implicitDefEqProofs only [go_sem, Nat.reduceLT, Nat.reduceAdd, Nat.reduceSub, Nat.reduceMul, Nat.reduceEqDiff, Nat.reduceBEq, Nat.reduceLeDiff, Int.reduceToNat, Int.reduceLT, Int.reduceLE, Int.reduceEq, reduceCtorEq, ↓reduceIte, E16_5, X16_5, k16_5b, b84, g87, g88, g89, w100, b102]
    · replace h := br_t b102 h
      cases h
      simp -implicitDefEqProofs only [go_sem, Nat.reduceLT, Nat.reduceAdd, Nat.reduceSub, Nat.reduceMul, Nat.reduceEqDiff, Nat.reduceBEq, Nat.reduceLeDiff, Int.reduceToNat, Int.reduceLT, Int.reduceLE, Int.reduceEq, reduceCtorEq, ↓reduceIte, E16_5, X16_5, k16_5b, b84, g87, g88, g89, w100, b102]
theorem e16_5 (s55 : Int) (x57 : (List (List Int))) (a0 : Spp) (p5 : Int) (p63 : Int) (s : Int) (o : (Unit ⊕ Unit)) (h : loopP (m16_5b s55 x57 a0 p63) s = some o) : evCL T 0 (.loop k16_5b) (E16_5 s55 x57 a0 p5 p63 s).1 (E16_5 s55 x57 a0 p5 p63 s).2 = some (X16_5 s55 x57 a0 p5 p63 o) :=
  loop_walk (E := E16_5 s55 x57 a0 p5 p63) (X := X16_5 s55 x57 a0 p5 p63) (by intro b; rcases b with b | b <;> (simp only [X16_5]; nofun)) (b16_5 s55 x57 a0 p5 p63) s o h
noncomputable def X16_1 (a0 : Spp) (p5 : Int) (o : (Unit ⊕ Unit)) : Ex × Fr × St :=
  match o with
  | .inl o => (.exit 0, frOf 50 (anyF), [])
  | .inr o => (.ret, frOf 50 (upd anyF 2 (.bool false)), [])
noncomputable def E16_1 (a0 : Spp) (p5 : Int) (s : Int) : Fr × St := (frOf 50 (upd (upd (upd (upd anyF 1 (.ptr 0 0 0)) 13 (.ts .imm 1 (a0.ranked.map (encLLInt .imm)))) 14 (.int .i64 p5)) 15 (.int .i64 s)), [some ⟨.box, 1, [[.ts .imm 1 (a0.ranked.map (encLLInt .imm))]]⟩])
theorem b16_1 (a0 : Spp) (p5 : Int) (s : Int) (o : Ctl Int (Unit ⊕ Unit)) (h : m16_1b a0 p5 s = some o) : evCL T 0 k16_1b (E16_1 a0 p5 s).1 (E16_1 a0 p5 s).2 = some (ctlX (E16_1 a0 p5) (X16_1 a0 p5) o) := by
  unfold m16_1b at h
  revert h
  generalize s = s55
  intro h
  try simp -implicitDefEqProofs only [go_sem, Nat.reduceLT, Nat.reduceAdd, Nat.reduceSub, Nat.reduceMul, Nat.reduceEqDiff, Nat.reduceBEq, Nat.reduceLeDiff, Int.reduceToNat, Int.reduceLT, Int.reduceLE, Int.reduceEq, reduceCtorEq, ↓reduceIte, E16_1, X16_1, k16_1b]
  cases b56 : (ltI s55 p5 : Bool)
  · replace h := br_f b56 h
    cases h
    simp -implicitDefEqProofs only [go_sem, Nat.reduceLT, Nat.reduceAdd, Nat.reduceSub, Nat.reduceMul, Nat.reduceEqDiff, Nat.reduceBEq, Nat.reduceLeDiff, Int.reduceToNat, Int.reduceLT, Int.reduceLE, Int.reduceEq, reduceCtorEq, ↓reduceIte, E16_1, X16_1, k16_1b, b56]
  · replace h := br_t b56 h
    obtain ⟨x57, q58, h⟩ := bnd_some h
    obtain ⟨g59, g60, g61⟩ := idx_row (encLLInt .imm) q58
    try simp -implicitDefEqProofs only [go_sem, Nat.reduceLT, Nat.reduceAdd, Nat.reduceSub, Nat.reduceMul, Nat.reduceEqDiff, Nat.reduceBEq, Nat.reduceLeDiff, Int.reduceToNat, Int.reduceLT, Int.reduceLE, Int.reduceEq, reduceCtorEq, ↓reduceIte] at g60
    try simp -implicitDefEqProofs only [go_sem, Nat.reduceLT, Nat.reduceAdd, Nat.reduceSub, Nat.reduceMul, Nat.reduceEqDiff, Nat.reduceBEq, Nat.reduceLeDiff, Int.reduceToNat, Int.reduceLT, Int.reduceLE, Int.reduceEq, reduceCtorEq, ↓reduceIte] at g61
    try simp -implicitDefEqProofs only [go_sem, Nat.reduceLT, Nat.reduceAdd, Nat.reduceSub, Nat.reduceMul, Nat.reduceEqDiff, Nat.reduceBEq, Nat.reduceLeDiff, Int.reduceToNat, Int.reduceLT, Int.reduceLE, Int.reduceEq, reduceCtorEq, ↓reduceIte, E16_1, X16_1, k16_1b, b56, g59, g60, g61]
    cases b62 : (ltI 6 (↑x57.length : Int) : Bool)
    · replace h := br_f b62 h
      try simp -implicitDefEqProofs only [go_sem, Nat.reduceLT, Nat.reduceAdd, Nat.reduceSub, Nat.reduceMul, Nat.reduceEqDiff, Nat.reduceBEq, Nat.reduceLeDiff, Int.reduceToNat, Int.reduceLT, Int.reduceLE, Int.reduceEq, reduceCtorEq, ↓reduceIte, E16_1, X16_1, k16_1b, b56, g59, g60, g61, b62]
      obtain ⟨o, q103, h⟩ := bnd_some h
      rcases o with ⟨⟩ | ⟨⟩
      · replace h := selS_l h
        have w104 := e16_5 s55 x57 a0 p5 (↑x57.length : Int) 0 (.inl ()) q103
        simp only [E16_5, X16_5] at w104
        try simp -implicitDefEqProofs only [go_sem, Nat.reduceLT, Nat.reduceAdd, Nat.reduceSub, Nat.reduceMul, Nat.reduceEqDiff, Nat.reduceBEq, Nat.reduceLeDiff, Int.reduceToNat, Int.reduceLT, Int.reduceLE, Int.reduceEq, reduceCtorEq, ↓reduceIte] at w104
        cases h
        simp -implicitDefEqProofs only [go_sem, Nat.reduceLT, Nat.reduceAdd, Nat.reduceSub, Nat.reduceMul, Nat.reduceEqDiff, Nat.reduceBEq, Nat.reduceLeDiff, Int.reduceToNat, Int.reduceLT, Int.reduceLE, Int.reduceEq, reduceCtorEq, ↓reduceIte, E16_1, X16_1, k16_1b, b56, g59, g60, g61, b62, w104]
      · replace h := selS_r h
        have w104 := e16_5 s55 x57 a0 p5 (↑x57.length : Int) 0 (.inr ()) q103
        simp only [E16_5, X16_5] at w104
        try simp -implicitDefEqProofs only [go_sem, Nat.reduceLT, Nat.reduceAdd, Nat.reduceSub, Nat.reduceMul, Nat.reduceEqDiff, Nat.reduceBEq, Nat.reduceLeDiff, Int.reduceToNat, Int.reduceLT, Int.reduceLE, Int.reduceEq, reduceCtorEq, ↓reduceIte] at w104
        cases h
        simp -implicitDefEqProofs only [go_sem, Nat.reduceLT, Nat.reduceAdd, Nat.reduceSub, Nat.reduceMul, Nat.reduceEqDiff, Nat.reduceBEq, Nat.reduceLeDiff, Int.reduceToNat, Int.reduceLT, Int.reduceLE, Int.reduceEq, reduceCtorEq, ↓reduceIte, E16_1, X16_1, k16_1b, b56, g59, g60, g61, b62, w104]
    · replace h := br_t b62 h
      cases h
      simp -implicitDefEqProofs only [go_sem, Nat.reduceLT, Nat.reduceAdd, Nat.reduceSub, Nat.reduceMul, Nat.reduceEqDiff, Nat.reduceBEq, Nat.reduceLeDiff, Int.reduceToNat, Int.reduceLT, Int.reduceLE, Int.reduceEq, reduceCtorEq, ↓reduceIte, E16_1, X16_1, k16_1b, b56, g59, g60, g61, b62]
theorem e16_1 (a0 : Spp) (p5 : Int) (s : Int) (o : (Unit ⊕ Unit)) (h : loopP (m16_1b a0 p5) s = some o) : evCL T 0 (.loop k16_1b) (E16_1 a0 p5 s).1 (E16_1 a0 p5 s).2 = some (X16_1 a0 p5 o) :=
  loop_walk (E := E16_1 a0 p5) (X := X16_1 a0 p5) (by intro b; rcases b with b | b <;> (simp only [X16_1]; nofun)) (b16_1 a0 p5) s o h
theorem e16 (a0 : Spp) (r : Bool) (h : m16 a0 = some r) : evFL T 16 [.agg [.ts .imm 1 (a0.ranked.map (encLLInt .imm))]] [] = some (.bool r, []) := by
  unfold m16 at h
  rw [evFL_at fn16 (Nat.le_of_ble_eq_true rfl) rfl (.inr rfl)]
  obtain ⟨r3, q1, h⟩ := bnd_some h
  have w2 := e51 (↑a0.ranked.length : Int) 1 5 r3 q1
  try simp -implicitDefEqProofs only [go_sem, Nat.reduceLT, Nat.reduceAdd, Nat.reduceSub, Nat.reduceMul, Nat.reduceEqDiff, Nat.reduceBEq, Nat.reduceLeDiff, Int.reduceToNat, Int.reduceLT, Int.reduceLE, Int.reduceEq, reduceCtorEq, ↓reduceIte] at w2
  try simp -implicitDefEqProofs only [go_sem, Nat.reduceLT, Nat.reduceAdd, Nat.reduceSub, Nat.reduceMul, Nat.reduceEqDiff, Nat.reduceBEq, Nat.reduceLeDiff, Int.reduceToNat, Int.reduceLT, Int.reduceLE, Int.reduceEq, reduceCtorEq, ↓reduceIte, i16, c16, w2]
  cases b4 : (r3 : Bool)
  · replace h := br_f b4 h
    cases h
    simp -implicitDefEqProofs only [go_sem, Nat.reduceLT, Nat.reduceAdd, Nat.reduceSub, Nat.reduceMul, Nat.reduceEqDiff, Nat.reduceBEq, Nat.reduceLeDiff, Int.reduceToNat, Int.reduceLT, Int.reduceLE, Int.reduceEq, reduceCtorEq, ↓reduceIte, i16, c16, w2, b4]
  · replace h := br_t b4 h
    try simp -implicitDefEqProofs only [go_sem, Nat.reduceLT, Nat.reduceAdd, Nat.reduceSub, Nat.reduceMul, Nat.reduceEqDiff, Nat.reduceBEq, Nat.reduceLeDiff, Int.reduceToNat, Int.reduceLT, Int.reduceLE, Int.reduceEq, reduceCtorEq, ↓reduceIte, i16, c16, w2, b4]
    obtain ⟨o, q105, h⟩ := bnd_some h
    rcases o with ⟨⟩ | ⟨⟩
    · replace h := selS_l h
      have w106 := e16_1 a0 (↑a0.ranked.length : Int) 0 (.inl ()) q105
      simp only [E16_1, X16_1] at w106
      try simp -implicitDefEqProofs only [go_sem, Nat.reduceLT, Nat.reduceAdd, Nat.reduceSub, Nat.reduceMul, Nat.reduceEqDiff, Nat.reduceBEq, Nat.reduceLeDiff, Int.reduceToNat, Int.reduceLT, Int.reduceLE, Int.reduceEq, reduceCtorEq, ↓reduceIte] at w106
      cases h
      simp -implicitDefEqProofs only [go_sem, Nat.reduceLT, Nat.reduceAdd, Nat.reduceSub, Nat.reduceMul, Nat.reduceEqDiff, Nat.reduceBEq, Nat.reduceLeDiff, Int.reduceToNat, Int.reduceLT, Int.reduceLE, Int.reduceEq, reduceCtorEq, ↓reduceIte, i16, c16, w2, b4, w106]
    · replace h := selS_r h
      have w106 := e16_1 a0 (↑a0.ranked.length : Int) 0 (.inr ()) q105
      simp only [E16_1, X16_1] at w106
      try simp -implicitDefEqProofs only [go_sem, Nat.reduceLT, Nat.reduceAdd, Nat.reduceSub, Nat.reduceMul, Nat.reduceEqDiff, Nat.reduceBEq, Nat.reduceLeDiff, Int.reduceToNat, Int.reduceLT, Int.reduceLE, Int.reduceEq, reduceCtorEq, ↓reduceIte] at w106
      cases h
      simp -implicitDefEqProofs only [go_sem, Nat.reduceLT, Nat.reduceAdd, Nat.reduceSub, Nat.reduceMul, Nat.reduceEqDiff, Nat.reduceBEq, Nat.reduceLeDiff, Int.reduceToNat, Int.reduceLT, Int.reduceLE, Int.reduceEq, reduceCtorEq, ↓reduceIte, i16, c16, w2, b4, w106]
-- f65 slices.Clone[[]impl.turn,impl.turn]
theorem call65 (args : List AV) (S : St) : evCall T (evFL T) 65 args S = lendC (evFL T 65) S (lendAll S [[2]] args) := evCall0 fn65 rfl rfl args S
theorem callz65 (args : List AV) (S : St) : evCallFz T (evFL T) 65 args S = lendZ (evFL T 65) S [[2]] (lendAll S [[2]] args) := evCallFz0 fn65 rfl rfl args S
attribute [go_sem] call65 callz65
theorem e65 (a0 : (List turn)) (r : (List turn)) (h : m65 a0 = some r) : evFL T 65 [.ts .imm 2 (a0.map encturn)] [] = some (.sl 0 0 r.length, [some ⟨.arr, 2, r.map encturn⟩]) := by
  unfold m65 at h
  rw [evFL_at fn65 (Nat.le_of_ble_eq_true rfl) rfl (.inr rfl)]
  cases a0 with
  | nil =>
      obtain ⟨g1, h⟩ := ck_some h
      try simp -implicitDefEqProofs only [go_sem, Nat.reduceLT, Nat.reduceAdd, Nat.reduceSub, Nat.reduceMul, Nat.reduceEqDiff, Nat.reduceBEq, Nat.reduceLeDiff, Int.reduceToNat, Int.reduceLT, Int.reduceLE, Int.reduceEq, reduceCtorEq, ↓reduceIte] at g1
      cases h
      simp -implicitDefEqProofs only [go_sem, Nat.reduceLT, Nat.reduceAdd, Nat.reduceSub, Nat.reduceMul, Nat.reduceEqDiff, Nat.reduceBEq, Nat.reduceLeDiff, Int.reduceToNat, Int.reduceLT, Int.reduceLE, Int.reduceEq, reduceCtorEq, ↓reduceIte, i65, c65, g1]
  | cons y ys =>
      obtain ⟨g1, h⟩ := ck_some h
      try simp -implicitDefEqProofs only [go_sem, Nat.reduceLT, Nat.reduceAdd, Nat.reduceSub, Nat.reduceMul, Nat.reduceEqDiff, Nat.reduceBEq, Nat.reduceLeDiff, Int.reduceToNat, Int.reduceLT, Int.reduceLE, Int.reduceEq, reduceCtorEq, ↓reduceIte] at g1
      cases h
      simp -implicitDefEqProofs only [go_sem, Nat.reduceLT, Nat.reduceAdd, Nat.reduceSub, Nat.reduceMul, Nat.reduceEqDiff, Nat.reduceBEq, Nat.reduceLeDiff, Int.reduceToNat, Int.reduceLT, Int.reduceLE, Int.reduceEq, reduceCtorEq, ↓reduceIte, i65, c65, g1]
-- f94 slices.IndexFunc[[]impl.turn,impl.turn]
theorem call94 (args : List AV) (S : St) : evCall T (evFL T) 94 args S = lendC (evFL T 94) S (lendAll S [[2], [0]] args) := evCall0 fn94 rfl rfl args S
theorem callz94 (args : List AV) (S : St) : evCallFz T (evFL T) 94 args S = lendZ (evFL T 94) S [[0]] (lendAll S [[2], [0]] args) := evCallFz0 fn94 rfl rfl args S
attribute [go_sem] call94 callz94
noncomputable def X94_1 (a1_f : Nat) (a1_c : List AV) (a0 : (List turn)) (p1 : Int) (a1 : (turn → Option Bool)) (o : (Unit ⊕ Int)) : Ex × Fr × St :=
  match o with
  | .inl o => (.exit 0, frOf 19 (anyF), [])
  | .inr o => (.ret, frOf 19 (upd anyF 4 (.int .i64 o)), [])
noncomputable def E94_1 (a1_f : Nat) (a1_c : List AV) (a0 : (List turn)) (p1 : Int) (a1 : (turn → Option Bool)) (s : Int) : Fr × St := (frOf 19 (upd (upd (upd (upd anyF 0 (.ts .imm 2 (a0.map encturn))) 1 (.fn a1_f a1_c)) 7 (.int .i64 p1)) 8 (.int .i64 s)), [])
theorem b94_1 (a0 : (List turn)) (p1 : Int) (a1 : (turn → Option Bool)) (a1_f : Nat) (a1_c : List AV) (a1_h : ((∀ S, mapO (lendPtr S) a1_c = some a1_c) ∧ (∀ n0 src R tm t c, tdL n0 src R tm t c a1_c = some a1_c)) ∧ ∀ y0 r, a1 y0 = some r → (∀ S, evCall T (evFL T) a1_f ([.agg [.int .i64 y0.node, .int .i64 y0.way]] ++ a1_c) S = some (.bool r, S)) ∧ (∀ S, evCallFz T (evFL T) a1_f ([.agg [.int .i64 y0.node, .int .i64 y0.way]] ++ a1_c) S = some (.bool r, S))) (s : Int) (o : Ctl Int (Unit ⊕ Int)) (h : m94_1b a0 p1 a1 s = some o) : evCL T 0 k94_1b (E94_1 a1_f a1_c a0 p1 a1 s).1 (E94_1 a1_f a1_c a0 p1 a1 s).2 = some (ctlX (E94_1 a1_f a1_c a0 p1 a1) (X94_1 a1_f a1_c a0 p1 a1) o) := by
  unfold m94_1b at h
  revert h
  generalize s = s12
  intro h
  try simp -implicitDefEqProofs only [go_sem, Nat.reduceLT, Nat.reduceAdd, Nat.reduceSub, Nat.reduceMul, Nat.reduceEqDiff, Nat.reduceBEq, Nat.reduceLeDiff, Int.reduceToNat, Int.reduceLT, Int.reduceLE, Int.reduceEq, reduceCtorEq, ↓reduceIte, E94_1, X94_1, k94_1b, a1_h.1]
  cases b13 : (ltI s12 p1 : Bool)
  · replace h := br_f b13 h
    cases h
    simp -implicitDefEqProofs only [go_sem, Nat.reduceLT, Nat.reduceAdd, Nat.reduceSub, Nat.reduceMul, Nat.reduceEqDiff, Nat.reduceBEq, Nat.reduceLeDiff, Int.reduceToNat, Int.reduceLT, Int.reduceLE, Int.reduceEq, reduceCtorEq, ↓reduceIte, E94_1, X94_1, k94_1b, a1_h.1, b13]
  · replace h := br_t b13 h
    obtain ⟨x14, q15, h⟩ := bnd_some h
    obtain ⟨g16, g17, g18⟩ := idx_row encturn q15
    try simp -implicitDefEqProofs only [go_sem, Nat.reduceLT, Nat.reduceAdd, Nat.reduceSub, Nat.reduceMul, Nat.reduceEqDiff, Nat.reduceBEq, Nat.reduceLeDiff, Int.reduceToNat, Int.reduceLT, Int.reduceLE, Int.reduceEq, reduceCtorEq, ↓reduceIte] at g17
    try simp -implicitDefEqProofs only [go_sem, Nat.reduceLT, Nat.reduceAdd, Nat.reduceSub, Nat.reduceMul, Nat.reduceEqDiff, Nat.reduceBEq, Nat.reduceLeDiff, Int.reduceToNat, Int.reduceLT, Int.reduceLE, Int.reduceEq, reduceCtorEq, ↓reduceIte] at g18
    obtain ⟨r19, q20, h⟩ := bnd_some h
    have w21 := a1_h.2 x14 r19 q20
    try simp -implicitDefEqProofs only [go_sem, Nat.reduceLT, Nat.reduceAdd, Nat.reduceSub, Nat.reduceMul, Nat.reduceEqDiff, Nat.reduceBEq, Nat.reduceLeDiff, Int.reduceToNat, Int.reduceLT, Int.reduceLE, Int.reduceEq, reduceCtorEq, ↓reduceIte] at w21
    try simp -implicitDefEqProofs only [go_sem, Nat.reduceLT, Nat.reduceAdd, Nat.reduceSub, Nat.reduceMul, Nat.reduceEqDiff, Nat.reduceBEq, Nat.reduceLeDiff, Int.reduceToNat, Int.reduceLT, Int.reduceLE, Int.reduceEq, reduceCtorEq, ↓reduceIte, E94_1, X94_1, k94_1b, a1_h.1, b13, g16, g17, g18, w21.1, w21.2]
    cases b22 : (r19 : Bool)
    · replace h := br_f b22 h
      cases h
      simp -implicitDefEqProofs only [go_sem, Nat.reduceLT, Nat.reduceAdd, Nat.reduceSub, Nat.reduceMul, Nat.reduceEqDiff, Nat.reduceBEq, Nat.reduceLeDiff, Int.reduceToNat, Int.reduceLT, Int.reduceLE, Int.reduceEq, reduceCtorEq, ↓reduceIte, E94_1, X94_1, k94_1b, a1_h.1, b13, g16, g17, g18, w21.1, w21.2, b22]
    · replace h := br_t b22 h
      cases h
      simp -implicitDefEqProofs only [go_sem, Nat.reduceLT, Nat.reduceAdd, Nat.reduceSub, Nat.reduceMul, Nat.reduceEqDiff, Nat.reduceBEq, Nat.reduceLeDiff, Int.reduceToNat, Int.reduceLT, Int.reduceLE, Int.reduceEq, reduceCtorEq, ↓reduceIte, E94_1, X94_1, k94_1b, a1_h.1, b13, g16, g17, g18, w21.1, w21.2, b22]
theorem e94_1 (a0 : (List turn)) (p1 : Int) (a1 : (turn → Option Bool)) (a1_f : Nat) (a1_c : List AV) (a1_h : ((∀ S, mapO (lendPtr S) a1_c = some a1_c) ∧ (∀ n0 src R tm t c, tdL n0 src R tm t c a1_c = some a1_c)) ∧ ∀ y0 r, a1 y0 = some r → (∀ S, evCall T (evFL T) a1_f ([.agg [.int .i64 y0.node, .int .i64 y0.way]] ++ a1_c) S = some (.bool r, S)) ∧ (∀ S, evCallFz T (evFL T) a1_f ([.agg [.int .i64 y0.node, .int .i64 y0.way]] ++ a1_c) S = some (.bool r, S))) (s : Int) (o : (Unit ⊕ Int)) (h : loopP (m94_1b a0 p1 a1) s = some o) : evCL T 0 (.loop k94_1b) (E94_1 a1_f a1_c a0 p1 a1 s).1 (E94_1 a1_f a1_c a0 p1 a1 s).2 = some (X94_1 a1_f a1_c a0 p1 a1 o) :=
  loop_walk (E := E94_1 a1_f a1_c a0 p1 a1) (X := X94_1 a1_f a1_c a0 p1 a1) (by intro b; rcases b with b | b <;> (simp only [X94_1]; nofun)) (b94_1 a0 p1 a1 a1_f a1_c a1_h) s o h
theorem e94 (a0 : (List turn)) (a1 : (turn → Option Bool)) (a1_f : Nat) (a1_c : List AV) (a1_h : ((∀ S, mapO (lendPtr S) a1_c = some a1_c) ∧ (∀ n0 src R tm t c, tdL n0 src R tm t c a1_c = some a1_c)) ∧ ∀ y0 r, a1 y0 = some r → (∀ S, evCall T (evFL T) a1_f ([.agg [.int .i64 y0.node, .int .i64 y0.way]] ++ a1_c) S = some (.bool r, S)) ∧ (∀ S, evCallFz T (evFL T) a1_f ([.agg [.int .i64 y0.node, .int .i64 y0.way]] ++ a1_c) S = some (.bool r, S))) (r : Int) (h : m94 a0 a1 = some r) : evFL T 94 [.ts .imm 2 (a0.map encturn), .fn a1_f a1_c] [] = some (.int .i64 r, []) := by
  unfold m94 at h
  rw [evFL_at fn94 (Nat.le_of_ble_eq_true rfl) rfl (.inr rfl)]
  try simp -implicitDefEqProofs only [go_sem, Nat.reduceLT, Nat.reduceAdd, Nat.reduceSub, Nat.reduceMul, Nat.reduceEqDiff, Nat.reduceBEq, Nat.reduceLeDiff, Int.reduceToNat, Int.reduceLT, Int.reduceLE, Int.reduceEq, reduceCtorEq, ↓reduceIte, i94, c94, a1_h.1]
  obtain ⟨o, q23, h⟩ := bnd_some h
  rcases o with ⟨⟩ | v25
  · replace h := selS_l h
    have w24 := e94_1 a0 (↑a0.length : Int) a1 a1_f a1_c a1_h 0 (.inl ()) q23
    simp only [E94_1, X94_1] at w24
    try simp -implicitDefEqProofs only [go_sem, Nat.reduceLT, Nat.reduceAdd, Nat.reduceSub, Nat.reduceMul, Nat.reduceEqDiff, Nat.reduceBEq, Nat.reduceLeDiff, Int.reduceToNat, Int.reduceLT, Int.reduceLE, Int.reduceEq, reduceCtorEq, ↓reduceIte] at w24
    cases h
    simp -implicitDefEqProofs only [go_sem, Nat.reduceLT, Nat.reduceAdd, Nat.reduceSub, Nat.reduceMul, Nat.reduceEqDiff, Nat.reduceBEq, Nat.reduceLeDiff, Int.reduceToNat, Int.reduceLT, Int.reduceLE, Int.reduceEq, reduceCtorEq, ↓reduceIte, i94, c94, a1_h.1, w24]
  · replace h := selS_r h
    have w24 := e94_1 a0 (↑a0.length : Int) a1 a1_f a1_c a1_h 0 (.inr v25) q23
    simp only [E94_1, X94_1] at w24
    try simp -implicitDefEqProofs only [go_sem, Nat.reduceLT, Nat.reduceAdd, Nat.reduceSub, Nat.reduceMul, Nat.reduceEqDiff, Nat.reduceBEq, Nat.reduceLeDiff, Int.reduceToNat, Int.reduceLT, Int.reduceLE, Int.reduceEq, reduceCtorEq, ↓reduceIte] at w24
    cases h
    simp -implicitDefEqProofs only [go_sem, Nat.reduceLT, Nat.reduceAdd, Nat.reduceSub, Nat.reduceMul, Nat.reduceEqDiff, Nat.reduceBEq, Nat.reduceLeDiff, Int.reduceToNat, Int.reduceLT, Int.reduceLE, Int.reduceEq, reduceCtorEq, ↓reduceIte, i94, c94, a1_h.1, w24]
-- f64 slices.DeleteFunc[[]impl.turn,impl.turn]
theorem call64 (args : List AV) (S : St) : evCall T (evFL T) 64 args S = c3A true (evFL T 64) (rawAll S [[2], [0]] args) := evCall3_a fn64 rfl args S
attribute [go_sem] call64
noncomputable def X64_3 (a1_f : Nat) (a1_c : List AV) (s26 : Int) (s27 : Int) (p38 : Bool) (s28 : List turn) (x30 : turn) (a1 : (turn → Option Bool)) (o : (Int × List turn)) : Ex × Fr × St :=
  (.normal, frOf 42 (upd (upd (upd (upd anyF 0 (.sl 0 0 o.2.length)) 1 (.fn a1_f a1_c)) 5 (.int .i64 o.1)) 6 (.int .i64 s27)), [some ⟨.arr, 2, o.2.map encturn⟩])
theorem e64_3 (s26 : Int) (s27 : Int) (p38 : Bool) (s28 : List turn) (x30 : turn) (a1 : (turn → Option Bool)) (a1_f : Nat) (a1_c : List AV) (a1_h : ((∀ S, mapO (lendPtr S) a1_c = some a1_c) ∧ (∀ n0 src R tm t c, tdL n0 src R tm t c a1_c = some a1_c)) ∧ ∀ y0 r, a1 y0 = some r → (∀ S, evCall T (evFL T) a1_f ([.agg [.int .i64 y0.node, .int .i64 y0.way]] ++ a1_c) S = some (.bool r, S)) ∧ (∀ S, evCallFz T (evFL T) a1_f ([.agg [.int .i64 y0.node, .int .i64 y0.way]] ++ a1_c) S = some (.bool r, S))) (o : (Int × List turn)) (h : m64_3 s26 p38 s28 x30 = some o) : evCL T 1 k64_3 (frOf 42 (upd (upd (upd (upd (upd (upd anyF 0 (.sl 0 0 s28.length)) 1 (.fn a1_f a1_c)) 5 (.int .i64 s26)) 6 (.int .i64 s27)) 7 (.ptr 1 0 0)) 29 (.bool p38))) [some ⟨.arr, 2, s28.map encturn⟩, some ⟨.box, 2, [[.int .i64 x30.node, .int .i64 x30.way]]⟩] = some (X64_3 a1_f a1_c s26 s27 p38 s28 x30 a1 o) := by
  unfold m64_3 at h
  try simp -implicitDefEqProofs only [go_sem, Nat.reduceLT, Nat.reduceAdd, Nat.reduceSub, Nat.reduceMul, Nat.reduceEqDiff, Nat.reduceBEq, Nat.reduceLeDiff, Int.reduceToNat, Int.reduceLT, Int.reduceLE, Int.reduceEq, reduceCtorEq, ↓reduceIte, X64_3, k64_3, a1_h.1]
  cases b39 : (p38 : Bool)
  · replace h := br_f b39 h
    cases h
    simp -implicitDefEqProofs only [go_sem, Nat.reduceLT, Nat.reduceAdd, Nat.reduceSub, Nat.reduceMul, Nat.reduceEqDiff, Nat.reduceBEq, Nat.reduceLeDiff, Int.reduceToNat, Int.reduceLT, Int.reduceLE, Int.reduceEq, reduceCtorEq, ↓reduceIte, X64_3, k64_3, a1_h.1, b39]
  · replace h := br_t b39 h
    obtain ⟨x40, q41, h⟩ := bnd_some h
    obtain ⟨g42, g43, g44⟩ := idx_row encturn q41
    try simp -implicitDefEqProofs only [go_sem, Nat.reduceLT, Nat.reduceAdd, Nat.reduceSub, Nat.reduceMul, Nat.reduceEqDiff, Nat.reduceBEq, Nat.reduceLeDiff, Int.reduceToNat, Int.reduceLT, Int.reduceLE, Int.reduceEq, reduceCtorEq, ↓reduceIte] at g43
    try simp -implicitDefEqProofs only [go_sem, Nat.reduceLT, Nat.reduceAdd, Nat.reduceSub, Nat.reduceMul, Nat.reduceEqDiff, Nat.reduceBEq, Nat.reduceLeDiff, Int.reduceToNat, Int.reduceLT, Int.reduceLE, Int.reduceEq, reduceCtorEq, ↓reduceIte] at g44
    cases h
    simp -implicitDefEqProofs only [go_sem, Nat.reduceLT, Nat.reduceAdd, Nat.reduceSub, Nat.reduceMul, Nat.reduceEqDiff, Nat.reduceBEq, Nat.reduceLeDiff, Int.reduceToNat, Int.reduceLT, Int.reduceLE, Int.reduceEq, reduceCtorEq, ↓reduceIte, X64_3, k64_3, a1_h.1, b39, g42, g43, g44]
noncomputable def X64_1 (a1_f : Nat) (a1_c : List AV) (a1 : (turn → Option Bool)) (o : (Int × List turn)) : Ex × Fr × St :=
  (.exit 0, frOf 42 (upd (upd anyF 0 (.sl 0 0 o.2.length)) 5 (.int .i64 o.1)), [some ⟨.arr, 2, o.2.map encturn⟩])
noncomputable def E64_1 (a1_f : Nat) (a1_c : List AV) (a1 : (turn → Option Bool)) (s : (Int × Int × List turn)) : Fr × St := (frOf 42 (upd (upd (upd (upd anyF 0 (.sl 0 0 s.2.2.length)) 1 (.fn a1_f a1_c)) 5 (.int .i64 s.1)) 6 (.int .i64 s.2.1)), [some ⟨.arr, 2, s.2.2.map encturn⟩])
theorem b64_1 (a1 : (turn → Option Bool)) (a1_f : Nat) (a1_c : List AV) (a1_h : ((∀ S, mapO (lendPtr S) a1_c = some a1_c) ∧ (∀ n0 src R tm t c, tdL n0 src R tm t c a1_c = some a1_c)) ∧ ∀ y0 r, a1 y0 = some r → (∀ S, evCall T (evFL T) a1_f ([.agg [.int .i64 y0.node, .int .i64 y0.way]] ++ a1_c) S = some (.bool r, S)) ∧ (∀ S, evCallFz T (evFL T) a1_f ([.agg [.int .i64 y0.node, .int .i64 y0.way]] ++ a1_c) S = some (.bool r, S))) (s : (Int × Int × List turn)) (o : Ctl (Int × Int × List turn) (Int × List turn)) (h : m64_1b a1 s = some o) : evCL T 1 k64_1b (E64_1 a1_f a1_c a1 s).1 (E64_1 a1_f a1_c a1 s).2 = some (ctlX (E64_1 a1_f a1_c a1) (X64_1 a1_f a1_c a1) o) := by
  unfold m64_1b at h
  obtain ⟨s26, s27, s28⟩ := s
  replace h := sel3_some h
  try simp -implicitDefEqProofs only [go_sem, Nat.reduceLT, Nat.reduceAdd, Nat.reduceSub, Nat.reduceMul, Nat.reduceEqDiff, Nat.reduceBEq, Nat.reduceLeDiff, Int.reduceToNat, Int.reduceLT, Int.reduceLE, Int.reduceEq, reduceCtorEq, ↓reduceIte, E64_1, X64_1, k64_1b, a1_h.1]
  cases b29 : (ltI s27 (↑s28.length : Int) : Bool)
  · replace h := br_f b29 h
    cases h
    simp -implicitDefEqProofs only [go_sem, Nat.reduceLT, Nat.reduceAdd, Nat.reduceSub, Nat.reduceMul, Nat.reduceEqDiff, Nat.reduceBEq, Nat.reduceLeDiff, Int.reduceToNat, Int.reduceLT, Int.reduceLE, Int.reduceEq, reduceCtorEq, ↓reduceIte, E64_1, X64_1, k64_1b, a1_h.1, b29]
  · replace h := br_t b29 h
    obtain ⟨x30, q31, h⟩ := bnd_some h
    obtain ⟨g32, g33, g34⟩ := idx_row encturn q31
    try simp -implicitDefEqProofs only [go_sem, Nat.reduceLT, Nat.reduceAdd, Nat.reduceSub, Nat.reduceMul, Nat.reduceEqDiff, Nat.reduceBEq, Nat.reduceLeDiff, Int.reduceToNat, Int.reduceLT, Int.reduceLE, Int.reduceEq, reduceCtorEq, ↓reduceIte] at g33
    try simp -implicitDefEqProofs only [go_sem, Nat.reduceLT, Nat.reduceAdd, Nat.reduceSub, Nat.reduceMul, Nat.reduceEqDiff, Nat.reduceBEq, Nat.reduceLeDiff, Int.reduceToNat, Int.reduceLT, Int.reduceLE, Int.reduceEq, reduceCtorEq, ↓reduceIte] at g34
    obtain ⟨r35, q36, h⟩ := bnd_some h
    have w37 := a1_h.2 x30 r35 q36
    try simp -implicitDefEqProofs only [go_sem, Nat.reduceLT, Nat.reduceAdd, Nat.reduceSub, Nat.reduceMul, Nat.reduceEqDiff, Nat.reduceBEq, Nat.reduceLeDiff, Int.reduceToNat, Int.reduceLT, Int.reduceLE, Int.reduceEq, reduceCtorEq, ↓reduceIte] at w37
    obtain ⟨⟨v47, v48⟩, q45, h⟩ := bnd_some h
    replace h := sel2_some h
    have w46 := e64_3 s26 s27 (!r35) s28 x30 a1 a1_f a1_c a1_h (v47, v48) q45
    simp only [X64_3] at w46
    try simp -implicitDefEqProofs only [go_sem, Nat.reduceLT, Nat.reduceAdd, Nat.reduceSub, Nat.reduceMul, Nat.reduceEqDiff, Nat.reduceBEq, Nat.reduceLeDiff, Int.reduceToNat, Int.reduceLT, Int.reduceLE, Int.reduceEq, reduceCtorEq, ↓reduceIte] at w46
    cases h
    simp -implicitDefEqProofs only [go_sem, Nat.reduceLT, Nat.reduceAdd, Nat.reduceSub, Nat.reduceMul, Nat.reduceEqDiff, Nat.reduceBEq, Nat.reduceLeDiff, Int.reduceToNat, Int.reduceLT, Int.reduceLE, Int.reduceEq, reduceCtorEq, ↓reduceIte, E64_1, X64_1, k64_1b, a1_h.1, b29, g32, g33, g34, w37.1, w37.2, w46]
theorem e64_1 (a1 : (turn → Option Bool)) (a1_f : Nat) (a1_c : List AV) (a1_h : ((∀ S, mapO (lendPtr S) a1_c = some a1_c) ∧ (∀ n0 src R tm t c, tdL n0 src R tm t c a1_c = some a1_c)) ∧ ∀ y0 r, a1 y0 = some r → (∀ S, evCall T (evFL T) a1_f ([.agg [.int .i64 y0.node, .int .i64 y0.way]] ++ a1_c) S = some (.bool r, S)) ∧ (∀ S, evCallFz T (evFL T) a1_f ([.agg [.int .i64 y0.node, .int .i64 y0.way]] ++ a1_c) S = some (.bool r, S))) (s : (Int × Int × List turn)) (o : (Int × List turn)) (h : loopP (m64_1b a1) s = some o) : evCL T 1 (.loop k64_1b) (E64_1 a1_f a1_c a1 s).1 (E64_1 a1_f a1_c a1 s).2 = some (X64_1 a1_f a1_c a1 o) :=
  loop_walk (E := E64_1 a1_f a1_c a1) (X := X64_1 a1_f a1_c a1) (by intro b; (simp only [X64_1]; nofun)) (b64_1 a1 a1_f a1_c a1_h) s o h
theorem e64 (a0 : (List turn)) (a1 : (turn → Option Bool)) (a1_f : Nat) (a1_c : List AV) (a1_h : ((∀ S, mapO (lendPtr S) a1_c = some a1_c) ∧ (∀ n0 src R tm t c, tdL n0 src R tm t c a1_c = some a1_c)) ∧ ∀ y0 r, a1 y0 = some r → (∀ S, evCall T (evFL T) a1_f ([.agg [.int .i64 y0.node, .int .i64 y0.way]] ++ a1_c) S = some (.bool r, S)) ∧ (∀ S, evCallFz T (evFL T) a1_f ([.agg [.int .i64 y0.node, .int .i64 y0.way]] ++ a1_c) S = some (.bool r, S))) (r : List turn) (h : m64 a0 a1 = some r) : evFL T 64 [.sl 0 0 a0.length, .fn a1_f a1_c] [some ⟨.arr, 2, a0.map encturn⟩] = some (.sl 1 0 r.length, [none, some ⟨.arr, 2, r.map encturn⟩]) := by
  unfold m64 at h
  rw [evFL_at fn64 (Nat.le_of_ble_eq_true rfl) rfl (.inl rfl)]
  obtain ⟨r3, q1, h⟩ := bnd_some h
  have w2 := e94 a0 a1 a1_f a1_c a1_h r3 q1
  try simp -implicitDefEqProofs only [go_sem, Nat.reduceLT, Nat.reduceAdd, Nat.reduceSub, Nat.reduceMul, Nat.reduceEqDiff, Nat.reduceBEq, Nat.reduceLeDiff, Int.reduceToNat, Int.reduceLT, Int.reduceLE, Int.reduceEq, reduceCtorEq, ↓reduceIte] at w2
  try simp -implicitDefEqProofs only [go_sem, Nat.reduceLT, Nat.reduceAdd, Nat.reduceSub, Nat.reduceMul, Nat.reduceEqDiff, Nat.reduceBEq, Nat.reduceLeDiff, Int.reduceToNat, Int.reduceLT, Int.reduceLE, Int.reduceEq, reduceCtorEq, ↓reduceIte, i64, c64, a1_h.1, w2]
  cases b4 : (eqI r3 (-1) : Bool)
  · replace h := br_f b4 h
    obtain ⟨⟨v51, v52⟩, q49, h⟩ := bnd_some h
    replace h := sel2_some h
    have w50 := e64_1 a1 a1_f a1_c a1_h (r3, wadd .i64 r3 1, a0) (v51, v52) q49
    simp only [E64_1, X64_1] at w50
    try simp -implicitDefEqProofs only [go_sem, Nat.reduceLT, Nat.reduceAdd, Nat.reduceSub, Nat.reduceMul, Nat.reduceEqDiff, Nat.reduceBEq, Nat.reduceLeDiff, Int.reduceToNat, Int.reduceLT, Int.reduceLE, Int.reduceEq, reduceCtorEq, ↓reduceIte] at w50
    obtain ⟨g53, h⟩ := ck_some h
    try simp -implicitDefEqProofs only [go_sem, Nat.reduceLT, Nat.reduceAdd, Nat.reduceSub, Nat.reduceMul, Nat.reduceEqDiff, Nat.reduceBEq, Nat.reduceLeDiff, Int.reduceToNat, Int.reduceLT, Int.reduceLE, Int.reduceEq, reduceCtorEq, ↓reduceIte] at g53
    have g54 : v51.toNat + (v52.length - v51.toNat) ≤ v52.length := by (try simp only [List.length_take, List.length_drop, List.length_append, List.length_set, List.length_cons, List.length_nil]); omega
    have g55 : v51.toNat + (v52.length - v51.toNat) = v52.length := by (try simp only [List.length_take, List.length_drop, List.length_append, List.length_set, List.length_cons, List.length_nil]); omega
    have g56 : v51.toNat ≤ v52.length := by (try simp only [List.length_take, List.length_drop, List.length_append, List.length_set, List.length_cons, List.length_nil]); omega
    obtain ⟨g57, h⟩ := ck_some h
    try simp -implicitDefEqProofs only [go_sem, Nat.reduceLT, Nat.reduceAdd, Nat.reduceSub, Nat.reduceMul, Nat.reduceEqDiff, Nat.reduceBEq, Nat.reduceLeDiff, Int.reduceToNat, Int.reduceLT, Int.reduceLE, Int.reduceEq, reduceCtorEq, ↓reduceIte] at g57
    have g58 : 0 + (v51.toNat) ≤ (v52.take v51.toNat).length := by (try simp only [List.length_take, List.length_drop, List.length_append, List.length_set, List.length_cons, List.length_nil]); omega
    have g59 : v51.toNat ≤ (((v52.take v51.toNat).drop 0).take v52.length).length := by (try simp only [List.length_take, List.length_drop, List.length_append, List.length_set, List.length_cons, List.length_nil]); omega
    cases h
    simp -implicitDefEqProofs only [go_sem, Nat.reduceLT, Nat.reduceAdd, Nat.reduceSub, Nat.reduceMul, Nat.reduceEqDiff, Nat.reduceBEq, Nat.reduceLeDiff, Int.reduceToNat, Int.reduceLT, Int.reduceLE, Int.reduceEq, reduceCtorEq, ↓reduceIte, i64, c64, a1_h.1, w2, b4, w50, g53, g54, g55, g56, g57, g58, g59]
  · replace h := br_t b4 h
    cases h
    simp -implicitDefEqProofs only [go_sem, Nat.reduceLT, Nat.reduceAdd, Nat.reduceSub, Nat.reduceMul, Nat.reduceEqDiff, Nat.reduceBEq, Nat.reduceLeDiff, Int.reduceToNat, Int.reduceLT, Int.reduceLE, Int.reduceEq, reduceCtorEq, ↓reduceIte, i64, c64, a1_h.1, w2, b4]
-- f67 slices.ContainsFunc[[]impl.turn,impl.turn]
theorem call67 (args : List AV) (S : St) : evCall T (evFL T) 67 args S = lendC (evFL T 67) S (lendAll S [[2], [0]] args) := evCall0 fn67 rfl rfl args S
theorem callz67 (args : List AV) (S : St) : evCallFz T (evFL T) 67 args S = lendZ (evFL T 67) S [[0]] (lendAll S [[2], [0]] args) := evCallFz0 fn67 rfl rfl args S
attribute [go_sem] call67 callz67
theorem e67 (a0 : (List turn)) (a1 : (turn → Option Bool)) (a1_f : Nat) (a1_c : List AV) (a1_h : ((∀ S, mapO (lendPtr S) a1_c = some a1_c) ∧ (∀ n0 src R tm t c, tdL n0 src R tm t c a1_c = some a1_c)) ∧ ∀ y0 r, a1 y0 = some r → (∀ S, evCall T (evFL T) a1_f ([.agg [.int .i64 y0.node, .int .i64 y0.way]] ++ a1_c) S = some (.bool r, S)) ∧ (∀ S, evCallFz T (evFL T) a1_f ([.agg [.int .i64 y0.node, .int .i64 y0.way]] ++ a1_c) S = some (.bool r, S))) (r : Bool) (h : m67 a0 a1 = some r) : evFL T 67 [.ts .imm 2 (a0.map encturn), .fn a1_f a1_c] [] = some (.bool r, []) := by
  unfold m67 at h
  rw [evFL_at fn67 (Nat.le_of_ble_eq_true rfl) rfl (.inr rfl)]
  obtain ⟨r3, q1, h⟩ := bnd_some h
  have w2 := e94 a0 a1 a1_f a1_c a1_h r3 q1
  try simp -implicitDefEqProofs only [go_sem, Nat.reduceLT, Nat.reduceAdd, Nat.reduceSub, Nat.reduceMul, Nat.reduceEqDiff, Nat.reduceBEq, Nat.reduceLeDiff, Int.reduceToNat, Int.reduceLT, Int.reduceLE, Int.reduceEq, reduceCtorEq, ↓reduceIte] at w2
  cases h
  simp -implicitDefEqProofs only [go_sem, Nat.reduceLT, Nat.reduceAdd, Nat.reduceSub, Nat.reduceMul, Nat.reduceEqDiff, Nat.reduceBEq, Nat.reduceLeDiff, Int.reduceToNat, Int.reduceLT, Int.reduceLE, Int.reduceEq, reduceCtorEq, ↓reduceIte, i67, c67, a1_h.1, w2]
-- f95 impl.leads$1
theorem call95 (args : List AV) (S : St) : evCall T (evFL T) 95 args S = lendC (evFL T 95) S (lendAll S [[1], [0]] args) := evCall0 fn95 rfl rfl args S
theorem callz95 (args : List AV) (S : St) : evCallFz T (evFL T) 95 args S = lendZ (evFL T 95) S [[0]] (lendAll S [[1], [0]] args) := evCallFz0 fn95 rfl rfl args S
attribute [go_sem] call95 callz95
noncomputable def X95_1 (a0 : (List Int)) (a1 : (List Int)) (o : Bool) : Ex × Fr × St :=
  (.normal, frOf 20 (upd anyF 3 (.bool o)), [])
theorem e95_1 (a0 : (List Int)) (a1 : (List Int)) (o : Bool) (h : m95_1 a0 a1 = some o) : evCL T 0 k95_1 (frOf 20 (upd (upd anyF 0 (.ts .imm 1 (a0.map encInt))) 1 (.tp .imm 1 [[.ts .imm 1 (a1.map encInt)]] 0 0))) [] = some (X95_1 a0 a1 o) := by
  unfold m95_1 at h
  try simp -implicitDefEqProofs only [go_sem, Nat.reduceLT, Nat.reduceAdd, Nat.reduceSub, Nat.reduceMul, Nat.reduceEqDiff, Nat.reduceBEq, Nat.reduceLeDiff, Int.reduceToNat, Int.reduceLT, Int.reduceLE, Int.reduceEq, reduceCtorEq, ↓reduceIte, X95_1, k95_1]
  cases b1 : (ltI (↑a1.length : Int) (↑a0.length : Int) : Bool)
  · replace h := br_f b1 h
    cases h
    simp -implicitDefEqProofs only [go_sem, Nat.reduceLT, Nat.reduceAdd, Nat.reduceSub, Nat.reduceMul, Nat.reduceEqDiff, Nat.reduceBEq, Nat.reduceLeDiff, Int.reduceToNat, Int.reduceLT, Int.reduceLE, Int.reduceEq, reduceCtorEq, ↓reduceIte, X95_1, k95_1, b1]
  · replace h := br_t b1 h
    obtain ⟨g2, h⟩ := ck_some h
    try simp -implicitDefEqProofs only [go_sem, Nat.reduceLT, Nat.reduceAdd, Nat.reduceSub, Nat.reduceMul, Nat.reduceEqDiff, Nat.reduceBEq, Nat.reduceLeDiff, Int.reduceToNat, Int.reduceLT, Int.reduceLE, Int.reduceEq, reduceCtorEq, ↓reduceIte] at g2
    obtain ⟨r5, q3, h⟩ := bnd_some h
    have w4 := e55 (a0.drop ((wsub .i64 (↑a0.length : Int) (↑a1.length : Int)).toNat)) a1 r5 q3
    try simp -implicitDefEqProofs only [go_sem, Nat.reduceLT, Nat.reduceAdd, Nat.reduceSub, Nat.reduceMul, Nat.reduceEqDiff, Nat.reduceBEq, Nat.reduceLeDiff, Int.reduceToNat, Int.reduceLT, Int.reduceLE, Int.reduceEq, reduceCtorEq, ↓reduceIte] at w4
    cases h
    simp -implicitDefEqProofs only [go_sem, Nat.reduceLT, Nat.reduceAdd, Nat.reduceSub, Nat.reduceMul, Nat.reduceEqDiff, Nat.reduceBEq, Nat.reduceLeDiff, Int.reduceToNat, Int.reduceLT, Int.reduceLE, Int.reduceEq, reduceCtorEq, ↓reduceIte, X95_1, k95_1, b1, g2, w4]
theorem e95 (a0 : (List Int)) (a1 : (List Int)) (r : Bool) (h : m95 a0 a1 = some r) : evFL T 95 [.ts .imm 1 (a0.map encInt), .tp .imm 1 [[.ts .imm 1 (a1.map encInt)]] 0 0] [] = some (.bool r, []) := by
  unfold m95 at h
  rw [evFL_at fn95 (Nat.le_of_ble_eq_true rfl) rfl (.inr rfl)]
  obtain ⟨v8, q6, h⟩ := bnd_some h
  have w7 := e95_1 a0 a1 v8 q6
  simp only [X95_1] at w7
  try simp -implicitDefEqProofs only [go_sem, Nat.reduceLT, Nat.reduceAdd, Nat.reduceSub, Nat.reduceMul, Nat.reduceEqDiff, Nat.reduceBEq, Nat.reduceLeDiff, Int.reduceToNat, Int.reduceLT, Int.reduceLE, Int.reduceEq, reduceCtorEq, ↓reduceIte] at w7
  cases h
  simp -implicitDefEqProofs only [go_sem, Nat.reduceLT, Nat.reduceAdd, Nat.reduceSub, Nat.reduceMul, Nat.reduceEqDiff, Nat.reduceBEq, Nat.reduceLeDiff, Int.reduceToNat, Int.reduceLT, Int.reduceLE, Int.reduceEq, reduceCtorEq, ↓reduceIte, i95, c95, w7]
-- f69 impl.leads
theorem call69 (args : List AV) (S : St) : evCall T (evFL T) 69 args S = lendC (evFL T 69) S (lendAll S [[1], [0, 0], [0, 0]] args) := evCall0 fn69 rfl rfl args S
theorem callz69 (args : List AV) (S : St) : evCallFz T (evFL T) 69 args S = lendZ (evFL T 69) S [[0]] (lendAll S [[1], [0, 0], [0, 0]] args) := evCallFz0 fn69 rfl rfl args S
attribute [go_sem] call69 callz69
theorem e69 (a0 : Spp) (a1 : turn) (a2 : turn) (r : Bool) (h : m69 a0 a1 a2 = some r) : evFL T 69 [.agg [.ts .imm 1 (a0.ranked.map (encLLInt .imm))], .agg [.int .i64 a1.node, .int .i64 a1.way], .agg [.int .i64 a2.node, .int .i64 a2.way]] [] = some (.bool r, []) := by
  unfold m69 at h
  rw [evFL_at fn69 (Nat.le_of_ble_eq_true rfl) rfl (.inr rfl)]
  try simp -implicitDefEqProofs only [go_sem, Nat.reduceLT, Nat.reduceAdd, Nat.reduceSub, Nat.reduceMul, Nat.reduceEqDiff, Nat.reduceBEq, Nat.reduceLeDiff, Int.reduceToNat, Int.reduceLT, Int.reduceLE, Int.reduceEq, reduceCtorEq, ↓reduceIte, i69, c69]
  cases b1 : (eqI a1.node a2.node : Bool)
  · replace h := br_f b1 h
    obtain ⟨x2, q3, h⟩ := bnd_some h
    obtain ⟨g4, g5, g6⟩ := idx_row (encLLInt .imm) q3
    try simp -implicitDefEqProofs only [go_sem, Nat.reduceLT, Nat.reduceAdd, Nat.reduceSub, Nat.reduceMul, Nat.reduceEqDiff, Nat.reduceBEq, Nat.reduceLeDiff, Int.reduceToNat, Int.reduceLT, Int.reduceLE, Int.reduceEq, reduceCtorEq, ↓reduceIte] at g5
    try simp -implicitDefEqProofs only [go_sem, Nat.reduceLT, Nat.reduceAdd, Nat.reduceSub, Nat.reduceMul, Nat.reduceEqDiff, Nat.reduceBEq, Nat.reduceLeDiff, Int.reduceToNat, Int.reduceLT, Int.reduceLE, Int.reduceEq, reduceCtorEq, ↓reduceIte] at g6
    obtain ⟨x7, q8, h⟩ := bnd_some h
    obtain ⟨g9, g10, g11⟩ := idx_row (encLInt .imm) q8
    try simp -implicitDefEqProofs only [go_sem, Nat.reduceLT, Nat.reduceAdd, Nat.reduceSub, Nat.reduceMul, Nat.reduceEqDiff, Nat.reduceBEq, Nat.reduceLeDiff, Int.reduceToNat, Int.reduceLT, Int.reduceLE, Int.reduceEq, reduceCtorEq, ↓reduceIte] at g10
    try simp -implicitDefEqProofs only [go_sem, Nat.reduceLT, Nat.reduceAdd, Nat.reduceSub, Nat.reduceMul, Nat.reduceEqDiff, Nat.reduceBEq, Nat.reduceLeDiff, Int.reduceToNat, Int.reduceLT, Int.reduceLE, Int.reduceEq, reduceCtorEq, ↓reduceIte] at g11
    obtain ⟨x12, q13, h⟩ := bnd_some h
    obtain ⟨g14, g15, g16⟩ := idx_row (encLLInt .imm) q13
    try simp -implicitDefEqProofs only [go_sem, Nat.reduceLT, Nat.reduceAdd, Nat.reduceSub, Nat.reduceMul, Nat.reduceEqDiff, Nat.reduceBEq, Nat.reduceLeDiff, Int.reduceToNat, Int.reduceLT, Int.reduceLE, Int.reduceEq, reduceCtorEq, ↓reduceIte] at g15
    try simp -implicitDefEqProofs only [go_sem, Nat.reduceLT, Nat.reduceAdd, Nat.reduceSub, Nat.reduceMul, Nat.reduceEqDiff, Nat.reduceBEq, Nat.reduceLeDiff, Int.reduceToNat, Int.reduceLT, Int.reduceLE, Int.reduceEq, reduceCtorEq, ↓reduceIte] at g16
    obtain ⟨g17, h⟩ := ck_some h
    try simp -implicitDefEqProofs only [go_sem, Nat.reduceLT, Nat.reduceAdd, Nat.reduceSub, Nat.reduceMul, Nat.reduceEqDiff, Nat.reduceBEq, Nat.reduceLeDiff, Int.reduceToNat, Int.reduceLT, Int.reduceLE, Int.reduceEq, reduceCtorEq, ↓reduceIte] at g17
    obtain ⟨r20, q18, h⟩ := bnd_some h
    have w19 := e53 (x12.take ((wadd .i64 a1.way 1).toNat)) (fun y0 => m95 y0 x7) 95 [.tp .imm 1 [[.ts .imm 1 (x7.map encInt)]] 0 0] ⟨⟨fun S => by simp -implicitDefEqProofs only [go_sem, Nat.reduceLT, Nat.reduceAdd, Nat.reduceSub, Nat.reduceMul, Nat.reduceEqDiff, Nat.reduceBEq, Nat.reduceLeDiff, Int.reduceToNat, Int.reduceLT, Int.reduceLE, Int.reduceEq, reduceCtorEq, ↓reduceIte], fun _ _ _ _ _ _ => by simp -implicitDefEqProofs only [go_sem, Nat.reduceLT, Nat.reduceAdd, Nat.reduceSub, Nat.reduceMul, Nat.reduceEqDiff, Nat.reduceBEq, Nat.reduceLeDiff, Int.reduceToNat, Int.reduceLT, Int.reduceLE, Int.reduceEq, reduceCtorEq, ↓reduceIte]⟩, fun y0 r h => ⟨fun S => by simp -implicitDefEqProofs only [go_sem, Nat.reduceLT, Nat.reduceAdd, Nat.reduceSub, Nat.reduceMul, Nat.reduceEqDiff, Nat.reduceBEq, Nat.reduceLeDiff, Int.reduceToNat, Int.reduceLT, Int.reduceLE, Int.reduceEq, reduceCtorEq, ↓reduceIte, e95 y0 x7 r h], fun S => by simp -implicitDefEqProofs only [go_sem, Nat.reduceLT, Nat.reduceAdd, Nat.reduceSub, Nat.reduceMul, Nat.reduceEqDiff, Nat.reduceBEq, Nat.reduceLeDiff, Int.reduceToNat, Int.reduceLT, Int.reduceLE, Int.reduceEq, reduceCtorEq, ↓reduceIte, e95 y0 x7 r h]⟩⟩ r20 q18
    try simp -implicitDefEqProofs only [go_sem, Nat.reduceLT, Nat.reduceAdd, Nat.reduceSub, Nat.reduceMul, Nat.reduceEqDiff, Nat.reduceBEq, Nat.reduceLeDiff, Int.reduceToNat, Int.reduceLT, Int.reduceLE, Int.reduceEq, reduceCtorEq, ↓reduceIte] at w19
    cases h
    simp -implicitDefEqProofs only [go_sem, Nat.reduceLT, Nat.reduceAdd, Nat.reduceSub, Nat.reduceMul, Nat.reduceEqDiff, Nat.reduceBEq, Nat.reduceLeDiff, Int.reduceToNat, Int.reduceLT, Int.reduceLE, Int.reduceEq, reduceCtorEq, ↓reduceIte, i69, c69, b1, g4, g5, g6, g9, g10, g11, g14, g15, g16, g17, w19]
  · replace h := br_t b1 h
    cases h
    simp -implicitDefEqProofs only [go_sem, Nat.reduceLT, Nat.reduceAdd, Nat.reduceSub, Nat.reduceMul, Nat.reduceEqDiff, Nat.reduceBEq, Nat.reduceLeDiff, Int.reduceToNat, Int.reduceLT, Int.reduceLE, Int.reduceEq, reduceCtorEq, ↓reduceIte, i69, c69, b1]
-- f68 impl.HasWheel$1$1
theorem call68 (args : List AV) (S : St) : evCall T (evFL T) 68 args S = lendC (evFL T 68) S (lendAll S [[0, 0], [0], [0]] args) := evCall0 fn68 rfl rfl args S
theorem callz68 (args : List AV) (S : St) : evCallFz T (evFL T) 68 args S = lendZ (evFL T 68) S [[0]] (lendAll S [[0, 0], [0], [0]] args) := evCallFz0 fn68 rfl rfl args S
attribute [go_sem] call68 callz68
theorem e68 (a0 : turn) (a1 : Spp) (a2 : turn) (r : Bool) (h : m68 a0 a1 a2 = some r) : evFL T 68 [.agg [.int .i64 a0.node, .int .i64 a0.way], .tp .imm 1 [[.ts .imm 1 (a1.ranked.map (encLLInt .imm))]] 0 0, .tp .imm 2 [[.int .i64 a2.node, .int .i64 a2.way]] 0 0] [] = some (.bool r, []) := by
  unfold m68 at h
  rw [evFL_at fn68 (Nat.le_of_ble_eq_true rfl) rfl (.inr rfl)]
  obtain ⟨r3, q1, h⟩ := bnd_some h
  have w2 := e69 a1 a2 a0 r3 q1
  try simp -implicitDefEqProofs only [go_sem, Nat.reduceLT, Nat.reduceAdd, Nat.reduceSub, Nat.reduceMul, Nat.reduceEqDiff, Nat.reduceBEq, Nat.reduceLeDiff, Int.reduceToNat, Int.reduceLT, Int.reduceLE, Int.reduceEq, reduceCtorEq, ↓reduceIte] at w2
  cases h
  simp -implicitDefEqProofs only [go_sem, Nat.reduceLT, Nat.reduceAdd, Nat.reduceSub, Nat.reduceMul, Nat.reduceEqDiff, Nat.reduceBEq, Nat.reduceLeDiff, Int.reduceToNat, Int.reduceLT, Int.reduceLE, Int.reduceEq, reduceCtorEq, ↓reduceIte, i68, c68, w2]
-- f66 impl.HasWheel$1
theorem call66 (args : List AV) (S : St) : evCall T (evFL T) 66 args S = lendC (evFL T 66) S (lendAll S [[0, 0], [0], [0]] args) := evCall0 fn66 rfl rfl args S
theorem callz66 (args : List AV) (S : St) : evCallFz T (evFL T) 66 args S = lendZ (evFL T 66) S [[0]] (lendAll S [[0, 0], [0], [0]] args) := evCallFz0 fn66 rfl rfl args S
attribute [go_sem] call66 callz66
theorem e66 (a0 : turn) (a1 : (List turn)) (a2 : Spp) (r : Bool) (h : m66 a0 a1 a2 = some r) : evFL T 66 [.agg [.int .i64 a0.node, .int .i64 a0.way], .tp .imm 1 [[.ts .imm 2 (a1.map encturn)]] 0 0, .tp .imm 1 [[.ts .imm 1 (a2.ranked.map (encLLInt .imm))]] 0 0] [] = some (.bool r, []) := by
  unfold m66 at h
  rw [evFL_at fn66 (Nat.le_of_ble_eq_true rfl) rfl (.inr rfl)]
  obtain ⟨r3, q1, h⟩ := bnd_some h
  have w2 := e67 a1 (fun y0 => m68 y0 a2 a0) 68 [.tp .imm 1 [[.ts .imm 1 (a2.ranked.map (encLLInt .imm))]] 0 0, .tp .imm 2 [[.int .i64 a0.node, .int .i64 a0.way]] 0 0] ⟨⟨fun S => by simp -implicitDefEqProofs only [go_sem, Nat.reduceLT, Nat.reduceAdd, Nat.reduceSub, Nat.reduceMul, Nat.reduceEqDiff, Nat.reduceBEq, Nat.reduceLeDiff, Int.reduceToNat, Int.reduceLT, Int.reduceLE, Int.reduceEq, reduceCtorEq, ↓reduceIte], fun _ _ _ _ _ _ => by simp -implicitDefEqProofs only [go_sem, Nat.reduceLT, Nat.reduceAdd, Nat.reduceSub, Nat.reduceMul, Nat.reduceEqDiff, Nat.reduceBEq, Nat.reduceLeDiff, Int.reduceToNat, Int.reduceLT, Int.reduceLE, Int.reduceEq, reduceCtorEq, ↓reduceIte]⟩, fun y0 r h => ⟨fun S => by simp -implicitDefEqProofs only [go_sem, Nat.reduceLT, Nat.reduceAdd, Nat.reduceSub, Nat.reduceMul, Nat.reduceEqDiff, Nat.reduceBEq, Nat.reduceLeDiff, Int.reduceToNat, Int.reduceLT, Int.reduceLE, Int.reduceEq, reduceCtorEq, ↓reduceIte, e68 y0 a2 a0 r h], fun S => by simp -implicitDefEqProofs only [go_sem, Nat.reduceLT, Nat.reduceAdd, Nat.reduceSub, Nat.reduceMul, Nat.reduceEqDiff, Nat.reduceBEq, Nat.reduceLeDiff, Int.reduceToNat, Int.reduceLT, Int.reduceLE, Int.reduceEq, reduceCtorEq, ↓reduceIte, e68 y0 a2 a0 r h]⟩⟩ r3 q1
  try simp -implicitDefEqProofs only [go_sem, Nat.reduceLT, Nat.reduceAdd, Nat.reduceSub, Nat.reduceMul, Nat.reduceEqDiff, Nat.reduceBEq, Nat.reduceLeDiff, Int.reduceToNat, Int.reduceLT, Int.reduceLE, Int.reduceEq, reduceCtorEq, ↓reduceIte] at w2
  cases h
  simp -implicitDefEqProofs only [go_sem, Nat.reduceLT, Nat.reduceAdd, Nat.reduceSub, Nat.reduceMul, Nat.reduceEqDiff, Nat.reduceBEq, Nat.reduceLeDiff, Int.reduceToNat, Int.reduceLT, Int.reduceLE, Int.reduceEq, reduceCtorEq, ↓reduceIte, i66, c66, w2]
-- f25 impl.HasWheel
theorem call25 (args : List AV) (S : St) : evCall T (evFL T) 25 args S = lendC (evFL T 25) S (lendAll S [[1]] args) := evCall0 fn25 rfl rfl args S
theorem callz25 (args : List AV) (S : St) : evCallFz T (evFL T) 25 args S = lendZ (evFL T 25) S [[0], [0]] (lendAll S [[1]] args) := evCallFz0 fn25 rfl rfl args S
attribute [go_sem] call25 callz25
noncomputable def X25_3 (s21 : Int) (a0 : Spp) (p5 : Int) (p29 : Int) (o : (List turn)) : Ex × Fr × St :=
  (.exit 2, frOf 47 (upd (upd (upd (upd (upd anyF 1 (.ptr 0 0 0)) 4 (.ptr 1 0 0)) 14 (.ts .imm 1 (a0.ranked.map (encLLInt .imm)))) 15 (.int .i64 p5)) 16 (.int .i64 s21)), [some ⟨.box, 1, [[.ts .imm 1 (a0.ranked.map (encLLInt .imm))]]⟩, some ⟨.box, 1, [[.sl 2 0 o.length]]⟩, some ⟨.arr, 2, o.map encturn⟩])
noncomputable def E25_3 (s21 : Int) (a0 : Spp) (p5 : Int) (p29 : Int) (s : (Int × List turn)) : Fr × St := (frOf 47 (upd (upd (upd (upd (upd (upd (upd (upd anyF 1 (.ptr 0 0 0)) 4 (.ptr 1 0 0)) 5 (.int .i64 s21)) 14 (.ts .imm 1 (a0.ranked.map (encLLInt .imm)))) 15 (.int .i64 p5)) 16 (.int .i64 s21)) 22 (.int .i64 p29)) 23 (.int .i64 s.1)), [some ⟨.box, 1, [[.ts .imm 1 (a0.ranked.map (encLLInt .imm))]]⟩, some ⟨.box, 1, [[.sl 2 0 s.2.length]]⟩, some ⟨.arr, 2, s.2.map encturn⟩])
theorem b25_3 (s21 : Int) (a0 : Spp) (p5 : Int) (p29 : Int) (s : (Int × List turn)) (o : Ctl (Int × List turn) (List turn)) (h : m25_3b s21 p29 s = some o) : evCL T 0 k25_3b (E25_3 s21 a0 p5 p29 s).1 (E25_3 s21 a0 p5 p29 s).2 = some (ctlX (E25_3 s21 a0 p5 p29) (X25_3 s21 a0 p5 p29) o) := by
  unfold m25_3b at h
  obtain ⟨s32, s33⟩ := s
  replace h := sel2_some h
  try simp -implicitDefEqProofs only [go_sem, Nat.reduceLT, Nat.reduceAdd, Nat.reduceSub, Nat.reduceMul, Nat.reduceEqDiff, Nat.reduceBEq, Nat.reduceLeDiff, Int.reduceToNat, Int.reduceLT, Int.reduceLE, Int.reduceEq, reduceCtorEq, ↓reduceIte, E25_3, X25_3, k25_3b]
  cases b34 : (ltI s32 p29 : Bool)
  · replace h := br_f b34 h
    cases h
    simp -implicitDefEqProofs only [go_sem, Nat.reduceLT, Nat.reduceAdd, Nat.reduceSub, Nat.reduceMul, Nat.reduceEqDiff, Nat.reduceBEq, Nat.reduceLeDiff, Int.reduceToNat, Int.reduceLT, Int.reduceLE, Int.reduceEq, reduceCtorEq, ↓reduceIte, E25_3, X25_3, k25_3b, b34]
  · replace h := br_t b34 h
    obtain ⟨g35, h⟩ := ck_some h
    try simp -implicitDefEqProofs only [go_sem, Nat.reduceLT, Nat.reduceAdd, Nat.reduceSub, Nat.reduceMul, Nat.reduceEqDiff, Nat.reduceBEq, Nat.reduceLeDiff, Int.reduceToNat, Int.reduceLT, Int.reduceLE, Int.reduceEq, reduceCtorEq, ↓reduceIte] at g35
    cases h
    simp -implicitDefEqProofs only [go_sem, Nat.reduceLT, Nat.reduceAdd, Nat.reduceSub, Nat.reduceMul, Nat.reduceEqDiff, Nat.reduceBEq, Nat.reduceLeDiff, Int.reduceToNat, Int.reduceLT, Int.reduceLE, Int.reduceEq, reduceCtorEq, ↓reduceIte, E25_3, X25_3, k25_3b, b34, g35]
theorem e25_3 (s21 : Int) (a0 : Spp) (p5 : Int) (p29 : Int) (s : (Int × List turn)) (o : (List turn)) (h : loopP (m25_3b s21 p29) s = some o) : evCL T 0 (.loop k25_3b) (E25_3 s21 a0 p5 p29 s).1 (E25_3 s21 a0 p5 p29 s).2 = some (X25_3 s21 a0 p5 p29 o) :=
  loop_walk (E := E25_3 s21 a0 p5 p29) (X := X25_3 s21 a0 p5 p29) (by intro b; (simp only [X25_3]; nofun)) (b25_3 s21 a0 p5 p29) s o h
noncomputable def X25_1 (a0 : Spp) (p5 : Int) (o : (List turn)) : Ex × Fr × St :=
  (.exit 0, frOf 47 (upd (upd anyF 1 (.ptr 0 0 0)) 4 (.ptr 1 0 0)), [some ⟨.box, 1, [[.ts .imm 1 (a0.ranked.map (encLLInt .imm))]]⟩, some ⟨.box, 1, [[.sl 2 0 o.length]]⟩, some ⟨.arr, 2, o.map encturn⟩])
noncomputable def E25_1 (a0 : Spp) (p5 : Int) (s : (Int × List turn)) : Fr × St := (frOf 47 (upd (upd (upd (upd (upd anyF 1 (.ptr 0 0 0)) 4 (.ptr 1 0 0)) 14 (.ts .imm 1 (a0.ranked.map (encLLInt .imm)))) 15 (.int .i64 p5)) 16 (.int .i64 s.1)), [some ⟨.box, 1, [[.ts .imm 1 (a0.ranked.map (encLLInt .imm))]]⟩, some ⟨.box, 1, [[.sl 2 0 s.2.length]]⟩, some ⟨.arr, 2, s.2.map encturn⟩])
theorem b25_1 (a0 : Spp) (p5 : Int) (s : (Int × List turn)) (o : Ctl (Int × List turn) (List turn)) (h : m25_1b a0 p5 s = some o) : evCL T 0 k25_1b (E25_1 a0 p5 s).1 (E25_1 a0 p5 s).2 = some (ctlX (E25_1 a0 p5) (X25_1 a0 p5) o) := by
  unfold m25_1b at h
  obtain ⟨s21, s22⟩ := s
  replace h := sel2_some h
  try simp -implicitDefEqProofs only [go_sem, Nat.reduceLT, Nat.reduceAdd, Nat.reduceSub, Nat.reduceMul, Nat.reduceEqDiff, Nat.reduceBEq, Nat.reduceLeDiff, Int.reduceToNat, Int.reduceLT, Int.reduceLE, Int.reduceEq, reduceCtorEq, ↓reduceIte, E25_1, X25_1, k25_1b]
  cases b23 : (ltI s21 p5 : Bool)
  · replace h := br_f b23 h
    cases h
    simp -implicitDefEqProofs only [go_sem, Nat.reduceLT, Nat.reduceAdd, Nat.reduceSub, Nat.reduceMul, Nat.reduceEqDiff, Nat.reduceBEq, Nat.reduceLeDiff, Int.reduceToNat, Int.reduceLT, Int.reduceLE, Int.reduceEq, reduceCtorEq, ↓reduceIte, E25_1, X25_1, k25_1b, b23]
  · replace h := br_t b23 h
    obtain ⟨x24, q25, h⟩ := bnd_some h
    obtain ⟨g26, g27, g28⟩ := idx_row (encLLInt .imm) q25
    try simp -implicitDefEqProofs only [go_sem, Nat.reduceLT, Nat.reduceAdd, Nat.reduceSub, Nat.reduceMul, Nat.reduceEqDiff, Nat.reduceBEq, Nat.reduceLeDiff, Int.reduceToNat, Int.reduceLT, Int.reduceLE, Int.reduceEq, reduceCtorEq, ↓reduceIte] at g27
    try simp -implicitDefEqProofs only [go_sem, Nat.reduceLT, Nat.reduceAdd, Nat.reduceSub, Nat.reduceMul, Nat.reduceEqDiff, Nat.reduceBEq, Nat.reduceLeDiff, Int.reduceToNat, Int.reduceLT, Int.reduceLE, Int.reduceEq, reduceCtorEq, ↓reduceIte] at g28
    obtain ⟨v38, q36, h⟩ := bnd_some h
    have w37 := e25_3 s21 a0 p5 (↑x24.length : Int) (0, s22) v38 q36
    simp only [E25_3, X25_3] at w37
    try simp -implicitDefEqProofs only [go_sem, Nat.reduceLT, Nat.reduceAdd, Nat.reduceSub, Nat.reduceMul, Nat.reduceEqDiff, Nat.reduceBEq, Nat.reduceLeDiff, Int.reduceToNat, Int.reduceLT, Int.reduceLE, Int.reduceEq, reduceCtorEq, ↓reduceIte] at w37
    cases h
    simp -implicitDefEqProofs only [go_sem, Nat.reduceLT, Nat.reduceAdd, Nat.reduceSub, Nat.reduceMul, Nat.reduceEqDiff, Nat.reduceBEq, Nat.reduceLeDiff, Int.reduceToNat, Int.reduceLT, Int.reduceLE, Int.reduceEq, reduceCtorEq, ↓reduceIte, E25_1, X25_1, k25_1b, b23, g26, g27, g28, w37]
theorem e25_1 (a0 : Spp) (p5 : Int) (s : (Int × List turn)) (o : (List turn)) (h : loopP (m25_1b a0 p5) s = some o) : evCL T 0 (.loop k25_1b) (E25_1 a0 p5 s).1 (E25_1 a0 p5 s).2 = some (X25_1 a0 p5 o) :=
  loop_walk (E := E25_1 a0 p5) (X := X25_1 a0 p5) (by intro b; (simp only [X25_1]; nofun)) (b25_1 a0 p5) s o h
noncomputable def X25_4 (a0 : Spp) (o : Bool) : Ex × Fr × St :=
  (.ret, frOf 47 (upd (upd anyF 2 (.bool o)) 3 (.bool true)), [])
noncomputable def E25_4 (a0 : Spp) (s : List turn) : Fr × St := (frOf 47 (upd (upd anyF 1 (.ptr 0 0 0)) 4 (.ptr 1 0 0)), [some ⟨.box, 1, [[.ts .imm 1 (a0.ranked.map (encLLInt .imm))]]⟩, some ⟨.box, 1, [[.sl 2 0 s.length]]⟩, some ⟨.arr, 2, s.map encturn⟩])
theorem b25_4 (a0 : Spp) (s : List turn) (o : Ctl (List turn) Bool) (h : m25_4b a0 s = some o) : evCL T 0 k25_4b (E25_4 a0 s).1 (E25_4 a0 s).2 = some (ctlX (E25_4 a0) (X25_4 a0) o) := by
  unfold m25_4b at h
  revert h
  generalize s = s49
  intro h
  obtain ⟨r52, q50, h⟩ := bnd_some h
  have w51 := e65 s49 r52 q50
  try simp -implicitDefEqProofs only [go_sem, Nat.reduceLT, Nat.reduceAdd, Nat.reduceSub, Nat.reduceMul, Nat.reduceEqDiff, Nat.reduceBEq, Nat.reduceLeDiff, Int.reduceToNat, Int.reduceLT, Int.reduceLE, Int.reduceEq, reduceCtorEq, ↓reduceIte] at w51
  obtain ⟨r55, q53, h⟩ := bnd_some h
  have w54 := e64 r52 (fun y0 => m66 y0 s49 a0) 66 [.tp .imm 1 [[.ts .imm 2 (s49.map encturn)]] 0 0, .tp .imm 1 [[.ts .imm 1 (a0.ranked.map (encLLInt .imm))]] 0 0] ⟨⟨fun S => by simp -implicitDefEqProofs only [go_sem, Nat.reduceLT, Nat.reduceAdd, Nat.reduceSub, Nat.reduceMul, Nat.reduceEqDiff, Nat.reduceBEq, Nat.reduceLeDiff, Int.reduceToNat, Int.reduceLT, Int.reduceLE, Int.reduceEq, reduceCtorEq, ↓reduceIte], fun _ _ _ _ _ _ => by simp -implicitDefEqProofs only [go_sem, Nat.reduceLT, Nat.reduceAdd, Nat.reduceSub, Nat.reduceMul, Nat.reduceEqDiff, Nat.reduceBEq, Nat.reduceLeDiff, Int.reduceToNat, Int.reduceLT, Int.reduceLE, Int.reduceEq, reduceCtorEq, ↓reduceIte]⟩, fun y0 r h => ⟨fun S => by simp -implicitDefEqProofs only [go_sem, Nat.reduceLT, Nat.reduceAdd, Nat.reduceSub, Nat.reduceMul, Nat.reduceEqDiff, Nat.reduceBEq, Nat.reduceLeDiff, Int.reduceToNat, Int.reduceLT, Int.reduceLE, Int.reduceEq, reduceCtorEq, ↓reduceIte, e66 y0 s49 a0 r h], fun S => by simp -implicitDefEqProofs only [go_sem, Nat.reduceLT, Nat.reduceAdd, Nat.reduceSub, Nat.reduceMul, Nat.reduceEqDiff, Nat.reduceBEq, Nat.reduceLeDiff, Int.reduceToNat, Int.reduceLT, Int.reduceLE, Int.reduceEq, reduceCtorEq, ↓reduceIte, e66 y0 s49 a0 r h]⟩⟩ r55 q53
  try simp -implicitDefEqProofs only [go_sem, Nat.reduceLT, Nat.reduceAdd, Nat.reduceSub, Nat.reduceMul, Nat.reduceEqDiff, Nat.reduceBEq, Nat.reduceLeDiff, Int.reduceToNat, Int.reduceLT, Int.reduceLE, Int.reduceEq, reduceCtorEq, ↓reduceIte] at w54
  try simp -implicitDefEqProofs only [go_sem, Nat.reduceLT, Nat.reduceAdd, Nat.reduceSub, Nat.reduceMul, Nat.reduceEqDiff, Nat.reduceBEq, Nat.reduceLeDiff, Int.reduceToNat, Int.reduceLT, Int.reduceLE, Int.reduceEq, reduceCtorEq, ↓reduceIte, E25_4, X25_4, k25_4b, w51, w54]
  cases b56 : (eqI (↑r55.length : Int) (↑s49.length : Int) : Bool)
  · replace h := br_f b56 h
    cases h
    simp -implicitDefEqProofs only [go_sem, Nat.reduceLT, Nat.reduceAdd, Nat.reduceSub, Nat.reduceMul, Nat.reduceEqDiff, Nat.reduceBEq, Nat.reduceLeDiff, Int.reduceToNat, Int.reduceLT, Int.reduceLE, Int.reduceEq, reduceCtorEq, ↓reduceIte, E25_4, X25_4, k25_4b, w51, w54, b56]
  · replace h := br_t b56 h
    cases h
    simp -implicitDefEqProofs only [go_sem, Nat.reduceLT, Nat.reduceAdd, Nat.reduceSub, Nat.reduceMul, Nat.reduceEqDiff, Nat.reduceBEq, Nat.reduceLeDiff, Int.reduceToNat, Int.reduceLT, Int.reduceLE, Int.reduceEq, reduceCtorEq, ↓reduceIte, E25_4, X25_4, k25_4b, w51, w54, b56]
theorem e25_4 (a0 : Spp) (s : List turn) (o : Bool) (h : loopP (m25_4b a0) s = some o) : evCL T 0 (.loop k25_4b) (E25_4 a0 s).1 (E25_4 a0 s).2 = some (X25_4 a0 o) :=
  loop_walk (E := E25_4 a0) (X := X25_4 a0) (by intro b; (simp only [X25_4]; nofun)) (b25_4 a0) s o h
theorem e25 (a0 : Spp) (r : (Bool × Bool)) (h : m25 a0 = some r) : evFL T 25 [.agg [.ts .imm 1 (a0.ranked.map (encLLInt .imm))]] [] = some (.tup [.bool r.1, .bool r.2], []) := by
  unfold m25 at h
  rw [evFL_at fn25 (Nat.le_of_ble_eq_true rfl) rfl (.inr rfl)]
  obtain ⟨r3, q1, h⟩ := bnd_some h
  have w2 := e16 a0 r3 q1
  try simp -implicitDefEqProofs only [go_sem, Nat.reduceLT, Nat.reduceAdd, Nat.reduceSub, Nat.reduceMul, Nat.reduceEqDiff, Nat.reduceBEq, Nat.reduceLeDiff, Int.reduceToNat, Int.reduceLT, Int.reduceLE, Int.reduceEq, reduceCtorEq, ↓reduceIte] at w2
  try simp -implicitDefEqProofs only [go_sem, Nat.reduceLT, Nat.reduceAdd, Nat.reduceSub, Nat.reduceMul, Nat.reduceEqDiff, Nat.reduceBEq, Nat.reduceLeDiff, Int.reduceToNat, Int.reduceLT, Int.reduceLE, Int.reduceEq, reduceCtorEq, ↓reduceIte, i25, c25, w2]
  cases b4 : (r3 : Bool)
  · replace h := br_f b4 h
    cases h
    simp -implicitDefEqProofs only [go_sem, Nat.reduceLT, Nat.reduceAdd, Nat.reduceSub, Nat.reduceMul, Nat.reduceEqDiff, Nat.reduceBEq, Nat.reduceLeDiff, Int.reduceToNat, Int.reduceLT, Int.reduceLE, Int.reduceEq, reduceCtorEq, ↓reduceIte, i25, c25, w2, b4]
  · replace h := br_t b4 h
    obtain ⟨v41, q39, h⟩ := bnd_some h
    have w40 := e25_1 a0 (↑a0.ranked.length : Int) (0, []) v41 q39
    simp only [E25_1, X25_1] at w40
    try simp -implicitDefEqProofs only [go_sem, Nat.reduceLT, Nat.reduceAdd, Nat.reduceSub, Nat.reduceMul, Nat.reduceEqDiff, Nat.reduceBEq, Nat.reduceLeDiff, Int.reduceToNat, Int.reduceLT, Int.reduceLE, Int.reduceEq, reduceCtorEq, ↓reduceIte] at w40
    obtain ⟨v59, q57, h⟩ := bnd_some h
    have w58 := e25_4 a0 v41 v59 q57
    simp only [E25_4, X25_4] at w58
    try simp -implicitDefEqProofs only [go_sem, Nat.reduceLT, Nat.reduceAdd, Nat.reduceSub, Nat.reduceMul, Nat.reduceEqDiff, Nat.reduceBEq, Nat.reduceLeDiff, Int.reduceToNat, Int.reduceLT, Int.reduceLE, Int.reduceEq, reduceCtorEq, ↓reduceIte] at w58
    cases h
    simp -implicitDefEqProofs only [go_sem, Nat.reduceLT, Nat.reduceAdd, Nat.reduceSub, Nat.reduceMul, Nat.reduceEqDiff, Nat.reduceBEq, Nat.reduceLeDiff, Int.reduceToNat, Int.reduceLT, Int.reduceLE, Int.reduceEq, reduceCtorEq, ↓reduceIte, i25, c25, w2, b4, w40, w58]
-- f21 laws.eqIntS
theorem call21 (args : List AV) (S : St) : evCall T (evFL T) 21 args S = lendC (evFL T 21) S (lendAll S [[1], [1]] args) := evCall0 fn21 rfl rfl args S
theorem callz21 (args : List AV) (S : St) : evCallFz T (evFL T) 21 args S = lendZ (evFL T 21) S [[0]] (lendAll S [[1], [1]] args) := evCallFz0 fn21 rfl rfl args S
attribute [go_sem] call21 callz21
noncomputable def X21_1 (a0 : (List Int)) (a1 : (List Int)) (o : (Unit ⊕ Unit)) : Ex × Fr × St :=
  match o with
  | .inl o => (.exit 0, frOf 26 (anyF), [])
  | .inr o => (.ret, frOf 26 (upd anyF 4 (.bool false)), [])
noncomputable def E21_1 (a0 : (List Int)) (a1 : (List Int)) (s : Int) : Fr × St := (frOf 26 (upd (upd (upd anyF 0 (.ts .imm 1 (a0.map encInt))) 1 (.ts .imm 1 (a1.map encInt))) 5 (.int .i64 s)), [])
theorem b21_1 (a0 : (List Int)) (a1 : (List Int)) (s : Int) (o : Ctl Int (Unit ⊕ Unit)) (h : m21_1b a0 a1 s = some o) : evCL T 0 k21_1b (E21_1 a0 a1 s).1 (E21_1 a0 a1 s).2 = some (ctlX (E21_1 a0 a1) (X21_1 a0 a1) o) := by
  unfold m21_1b at h
  revert h
  generalize s = s14
  intro h
  try simp -implicitDefEqProofs only [go_sem, Nat.reduceLT, Nat.reduceAdd, Nat.reduceSub, Nat.reduceMul, Nat.reduceEqDiff, Nat.reduceBEq, Nat.reduceLeDiff, Int.reduceToNat, Int.reduceLT, Int.reduceLE, Int.reduceEq, reduceCtorEq, ↓reduceIte, E21_1, X21_1, k21_1b]
  cases b15 : (ltI s14 (↑a0.length : Int) : Bool)
  · replace h := br_f b15 h
    cases h
    simp -implicitDefEqProofs only [go_sem, Nat.reduceLT, Nat.reduceAdd, Nat.reduceSub, Nat.reduceMul, Nat.reduceEqDiff, Nat.reduceBEq, Nat.reduceLeDiff, Int.reduceToNat, Int.reduceLT, Int.reduceLE, Int.reduceEq, reduceCtorEq, ↓reduceIte, E21_1, X21_1, k21_1b, b15]
  · replace h := br_t b15 h
    obtain ⟨x16, q17, h⟩ := bnd_some h
    obtain ⟨g18, g19, g20⟩ := idx_row encInt q17
    try simp -implicitDefEqProofs only [go_sem, Nat.reduceLT, Nat.reduceAdd, Nat.reduceSub, Nat.reduceMul, Nat.reduceEqDiff, Nat.reduceBEq, Nat.reduceLeDiff, Int.reduceToNat, Int.reduceLT, Int.reduceLE, Int.reduceEq, reduceCtorEq, ↓reduceIte] at g19
    try simp -implicitDefEqProofs only [go_sem, Nat.reduceLT, Nat.reduceAdd, Nat.reduceSub, Nat.reduceMul, Nat.reduceEqDiff, Nat.reduceBEq, Nat.reduceLeDiff, Int.reduceToNat, Int.reduceLT, Int.reduceLE, Int.reduceEq, reduceCtorEq, ↓reduceIte] at g20
    obtain ⟨x21, q22, h⟩ := bnd_some h
    obtain ⟨g23, g24, g25⟩ := idx_row encInt q22
    try simp -implicitDefEqProofs only [go_sem, Nat.reduceLT, Nat.reduceAdd, Nat.reduceSub, Nat.reduceMul, Nat.reduceEqDiff, Nat.reduceBEq, Nat.reduceLeDiff, Int.reduceToNat, Int.reduceLT, Int.reduceLE, Int.reduceEq, reduceCtorEq, ↓reduceIte] at g24
    try simp -implicitDefEqProofs only [go_sem, Nat.reduceLT, Nat.reduceAdd, Nat.reduceSub, Nat.reduceMul, Nat.reduceEqDiff, Nat.reduceBEq, Nat.reduceLeDiff, Int.reduceToNat, Int.reduceLT, Int.reduceLE, Int.reduceEq, reduceCtorEq, ↓reduceIte] at g25
    try simp -implicitDefEqProofs only [go_sem, Nat.reduceLT, Nat.reduceAdd, Nat.reduceSub, Nat.reduceMul, Nat.reduceEqDiff, Nat.reduceBEq, Nat.reduceLeDiff, Int.reduceToNat, Int.reduceLT, Int.reduceLE, Int.reduceEq, reduceCtorEq, ↓reduceIte, E21_1, X21_1, k21_1b, b15, g18, g19, g20, g23, g24, g25]
    cases b26 : (eqI x16 x21 : Bool)
    · replace h := br_f b26 h
      cases h
      simp -implicitDefEqProofs only [go_sem, Nat.reduceLT, Nat.reduceAdd, Nat.reduceSub, Nat.reduceMul, Nat.reduceEqDiff, Nat.reduceBEq, Nat.reduceLeDiff, Int.reduceToNat, Int.reduceLT, Int.reduceLE, Int.reduceEq, reduceCtorEq, ↓reduceIte, E21_1, X21_1, k21_1b, b15, g18, g19, g20, g23, g24, g25, b26]
    · replace h := br_t b26 h
      cases h
      simp -implicitDefEqProofs only [go_sem, Nat.reduceLT, Nat.reduceAdd, Nat.reduceSub, Nat.reduceMul, Nat.reduceEqDiff, Nat.reduceBEq, Nat.reduceLeDiff, Int.reduceToNat, Int.reduceLT, Int.reduceLE, Int.reduceEq, reduceCtorEq, ↓reduceIte, E21_1, X21_1, k21_1b, b15, g18, g19, g20, g23, g24, g25, b26]
theorem e21_1 (a0 : (List Int)) (a1 : (List Int)) (s : Int) (o : (Unit ⊕ Unit)) (h : loopP (m21_1b a0 a1) s = some o) : evCL T 0 (.loop k21_1b) (E21_1 a0 a1 s).1 (E21_1 a0 a1 s).2 = some (X21_1 a0 a1 o) :=
  loop_walk (E := E21_1 a0 a1) (X := X21_1 a0 a1) (by intro b; rcases b with b | b <;> (simp only [X21_1]; nofun)) (b21_1 a0 a1) s o h
theorem e21 (a0 : (List Int)) (a1 : (List Int)) (r : Bool) (h : m21 a0 a1 = some r) : evFL T 21 [.ts .imm 1 (a0.map encInt), .ts .imm 1 (a1.map encInt)] [] = some (.bool r, []) := by
  unfold m21 at h
  rw [evFL_at fn21 (Nat.le_of_ble_eq_true rfl) rfl (.inr rfl)]
  try simp -implicitDefEqProofs only [go_sem, Nat.reduceLT, Nat.reduceAdd, Nat.reduceSub, Nat.reduceMul, Nat.reduceEqDiff, Nat.reduceBEq, Nat.reduceLeDiff, Int.reduceToNat, Int.reduceLT, Int.reduceLE, Int.reduceEq, reduceCtorEq, ↓reduceIte, i21, c21]
  cases b1 : (eqI (↑a0.length : Int) (↑a1.length : Int) : Bool)
  · replace h := br_f b1 h
    cases h
    simp -implicitDefEqProofs only [go_sem, Nat.reduceLT, Nat.reduceAdd, Nat.reduceSub, Nat.reduceMul, Nat.reduceEqDiff, Nat.reduceBEq, Nat.reduceLeDiff, Int.reduceToNat, Int.reduceLT, Int.reduceLE, Int.reduceEq, reduceCtorEq, ↓reduceIte, i21, c21, b1]
  · replace h := br_t b1 h
    try simp -implicitDefEqProofs only [go_sem, Nat.reduceLT, Nat.reduceAdd, Nat.reduceSub, Nat.reduceMul, Nat.reduceEqDiff, Nat.reduceBEq, Nat.reduceLeDiff, Int.reduceToNat, Int.reduceLT, Int.reduceLE, Int.reduceEq, reduceCtorEq, ↓reduceIte, i21, c21, b1]
    obtain ⟨o, q27, h⟩ := bnd_some h
    rcases o with ⟨⟩ | ⟨⟩
    · replace h := selS_l h
      have w28 := e21_1 a0 a1 0 (.inl ()) q27
      simp only [E21_1, X21_1] at w28
      try simp -implicitDefEqProofs only [go_sem, Nat.reduceLT, Nat.reduceAdd, Nat.reduceSub, Nat.reduceMul, Nat.reduceEqDiff, Nat.reduceBEq, Nat.reduceLeDiff, Int.reduceToNat, Int.reduceLT, Int.reduceLE, Int.reduceEq, reduceCtorEq, ↓reduceIte] at w28
      cases h
      simp -implicitDefEqProofs only [go_sem, Nat.reduceLT, Nat.reduceAdd, Nat.reduceSub, Nat.reduceMul, Nat.reduceEqDiff, Nat.reduceBEq, Nat.reduceLeDiff, Int.reduceToNat, Int.reduceLT, Int.reduceLE, Int.reduceEq, reduceCtorEq, ↓reduceIte, i21, c21, b1, w28]
    · replace h := selS_r h
      have w28 := e21_1 a0 a1 0 (.inr ()) q27
      simp only [E21_1, X21_1] at w28
      try simp -implicitDefEqProofs only [go_sem, Nat.reduceLT, Nat.reduceAdd, Nat.reduceSub, Nat.reduceMul, Nat.reduceEqDiff, Nat.reduceBEq, Nat.reduceLeDiff, Int.reduceToNat, Int.reduceLT, Int.reduceLE, Int.reduceEq, reduceCtorEq, ↓reduceIte] at w28
      cases h
      simp -implicitDefEqProofs only [go_sem, Nat.reduceLT, Nat.reduceAdd, Nat.reduceSub, Nat.reduceMul, Nat.reduceEqDiff, Nat.reduceBEq, Nat.reduceLeDiff, Int.reduceToNat, Int.reduceLT, Int.reduceLE, Int.reduceEq, reduceCtorEq, ↓reduceIte, i21, c21, b1, w28]
-- f33 laws.eqIntSS
theorem call33 (args : List AV) (S : St) : evCall T (evFL T) 33 args S = lendC (evFL T 33) S (lendAll S [[1], [1]] args) := evCall0 fn33 rfl rfl args S
theorem callz33 (args : List AV) (S : St) : evCallFz T (evFL T) 33 args S = lendZ (evFL T 33) S [[0]] (lendAll S [[1], [1]] args) := evCallFz0 fn33 rfl rfl args S
attribute [go_sem] call33 callz33
noncomputable def X33_1 (a0 : (List (List Int))) (a1 : (List (List Int))) (o : (Unit ⊕ Unit)) : Ex × Fr × St :=
  match o with
  | .inl o => (.exit 0, frOf 27 (anyF), [])
  | .inr o => (.ret, frOf 27 (upd anyF 4 (.bool false)), [])
noncomputable def E33_1 (a0 : (List (List Int))) (a1 : (List (List Int))) (s : Int) : Fr × St := (frOf 27 (upd (upd (upd anyF 0 (.ts .imm 1 (a0.map (encLInt .imm)))) 1 (.ts .imm 1 (a1.map (encLInt .imm)))) 5 (.int .i64 s)), [])
theorem b33_1 (a0 : (List (List Int))) (a1 : (List (List Int))) (s : Int) (o : Ctl Int (Unit ⊕ Unit)) (h : m33_1b a0 a1 s = some o) : evCL T 0 k33_1b (E33_1 a0 a1 s).1 (E33_1 a0 a1 s).2 = some (ctlX (E33_1 a0 a1) (X33_1 a0 a1) o) := by
  unfold m33_1b at h
  revert h
  generalize s = s17
  intro h
  try simp -implicitDefEqProofs only [go_sem, Nat.reduceLT, Nat.reduceAdd, Nat.reduceSub, Nat.reduceMul, Nat.reduceEqDiff, Nat.reduceBEq, Nat.reduceLeDiff, Int.reduceToNat, Int.reduceLT, Int.reduceLE, Int.reduceEq, reduceCtorEq, ↓reduceIte, E33_1, X33_1, k33_1b]
  cases b18 : (ltI s17 (↑a0.length : Int) : Bool)
  · replace h := br_f b18 h
    cases h
    simp -implicitDefEqProofs only [go_sem, Nat.reduceLT, Nat.reduceAdd, Nat.reduceSub, Nat.reduceMul, Nat.reduceEqDiff, Nat.reduceBEq, Nat.reduceLeDiff, Int.reduceToNat, Int.reduceLT, Int.reduceLE, Int.reduceEq, reduceCtorEq, ↓reduceIte, E33_1, X33_1, k33_1b, b18]
  · replace h := br_t b18 h
    obtain ⟨x19, q20, h⟩ := bnd_some h
    obtain ⟨g21, g22, g23⟩ := idx_row (encLInt .imm) q20
    try simp -implicitDefEqProofs only [go_sem, Nat.reduceLT, Nat.reduceAdd, Nat.reduceSub, Nat.reduceMul, Nat.reduceEqDiff, Nat.reduceBEq, Nat.reduceLeDiff, Int.reduceToNat, Int.reduceLT, Int.reduceLE, Int.reduceEq, reduceCtorEq, ↓reduceIte] at g22
    try simp -implicitDefEqProofs only [go_sem, Nat.reduceLT, Nat.reduceAdd, Nat.reduceSub, Nat.reduceMul, Nat.reduceEqDiff, Nat.reduceBEq, Nat.reduceLeDiff, Int.reduceToNat, Int.reduceLT, Int.reduceLE, Int.reduceEq, reduceCtorEq, ↓reduceIte] at g23
    obtain ⟨x24, q25, h⟩ := bnd_some h
    obtain ⟨g26, g27, g28⟩ := idx_row (encLInt .imm) q25
    try simp -implicitDefEqProofs only [go_sem, Nat.reduceLT, Nat.reduceAdd, Nat.reduceSub, Nat.reduceMul, Nat.reduceEqDiff, Nat.reduceBEq, Nat.reduceLeDiff, Int.reduceToNat, Int.reduceLT, Int.reduceLE, Int.reduceEq, reduceCtorEq, ↓reduceIte] at g27
    try simp -implicitDefEqProofs only [go_sem, Nat.reduceLT, Nat.reduceAdd, Nat.reduceSub, Nat.reduceMul, Nat.reduceEqDiff, Nat.reduceBEq, Nat.reduceLeDiff, Int.reduceToNat, Int.reduceLT, Int.reduceLE, Int.reduceEq, reduceCtorEq, ↓reduceIte] at g28
    obtain ⟨r31, q29, h⟩ := bnd_some h
    have w30 := e21 x19 x24 r31 q29
    try simp -implicitDefEqProofs only [go_sem, Nat.reduceLT, Nat.reduceAdd, Nat.reduceSub, Nat.reduceMul, Nat.reduceEqDiff, Nat.reduceBEq, Nat.reduceLeDiff, Int.reduceToNat, Int.reduceLT, Int.reduceLE, Int.reduceEq, reduceCtorEq, ↓reduceIte] at w30
    try simp -implicitDefEqProofs only [go_sem, Nat.reduceLT, Nat.reduceAdd, Nat.reduceSub, Nat.reduceMul, Nat.reduceEqDiff, Nat.reduceBEq, Nat.reduceLeDiff, Int.reduceToNat, Int.reduceLT, Int.reduceLE, Int.reduceEq, reduceCtorEq, ↓reduceIte, E33_1, X33_1, k33_1b, b18, g21, g22, g23, g26, g27, g28, w30]
    cases b32 : (r31 : Bool)
    · replace h := br_f b32 h
      cases h
      simp -implicitDefEqProofs only [go_sem, Nat.reduceLT, Nat.reduceAdd, Nat.reduceSub, Nat.reduceMul, Nat.reduceEqDiff, Nat.reduceBEq, Nat.reduceLeDiff, Int.reduceToNat, Int.reduceLT, Int.reduceLE, Int.reduceEq, reduceCtorEq, ↓reduceIte, E33_1, X33_1, k33_1b, b18, g21, g22, g23, g26, g27, g28, w30, b32]
    · replace h := br_t b32 h
      cases h
      simp -implicitDefEqProofs only [go_sem, Nat.reduceLT, Nat.reduceAdd, Nat.reduceSub, Nat.reduceMul, Nat.reduceEqDiff, Nat.reduceBEq, Nat.reduceLeDiff, Int.reduceToNat, Int.reduceLT, Int.reduceLE, Int.reduceEq, reduceCtorEq, ↓reduceIte, E33_1, X33_1, k33_1b, b18, g21, g22, g23, g26, g27, g28, w30, b32]
theorem e33_1 (a0 : (List (List Int))) (a1 : (List (List Int))) (s : Int) (o : (Unit ⊕ Unit)) (h : loopP (m33_1b a0 a1) s = some o) : evCL T 0 (.loop k33_1b) (E33_1 a0 a1 s).1 (E33_1 a0 a1 s).2 = some (X33_1 a0 a1 o) :=
  loop_walk (E := E33_1 a0 a1) (X := X33_1 a0 a1) (by intro b; rcases b with b | b <;> (simp only [X33_1]; nofun)) (b33_1 a0 a1) s o h
theorem e33 (a0 : (List (List Int))) (a1 : (List (List Int))) (r : Bool) (h : m33 a0 a1 = some r) : evFL T 33 [.ts .imm 1 (a0.map (encLInt .imm)), .ts .imm 1 (a1.map (encLInt .imm))] [] = some (.bool r, []) := by
  unfold m33 at h
  rw [evFL_at fn33 (Nat.le_of_ble_eq_true rfl) rfl (.inr rfl)]
  try simp -implicitDefEqProofs only [go_sem, Nat.reduceLT, Nat.reduceAdd, Nat.reduceSub, Nat.reduceMul, Nat.reduceEqDiff, Nat.reduceBEq, Nat.reduceLeDiff, Int.reduceToNat, Int.reduceLT, Int.reduceLE, Int.reduceEq, reduceCtorEq, ↓reduceIte, i33, c33]
  cases b1 : (eqI (↑a0.length : Int) (↑a1.length : Int) : Bool)
  · replace h := br_f b1 h
    cases h
    simp -implicitDefEqProofs only [go_sem, Nat.reduceLT, Nat.reduceAdd, Nat.reduceSub, Nat.reduceMul, Nat.reduceEqDiff, Nat.reduceBEq, Nat.reduceLeDiff, Int.reduceToNat, Int.reduceLT, Int.reduceLE, Int.reduceEq, reduceCtorEq, ↓reduceIte, i33, c33, b1]
  · replace h := br_t b1 h
    try simp -implicitDefEqProofs only [go_sem, Nat.reduceLT, Nat.reduceAdd, Nat.reduceSub, Nat.reduceMul, Nat.reduceEqDiff, Nat.reduceBEq, Nat.reduceLeDiff, Int.reduceToNat, Int.reduceLT, Int.reduceLE, Int.reduceEq, reduceCtorEq, ↓reduceIte, i33, c33, b1]
    obtain ⟨o, q33, h⟩ := bnd_some h
    rcases o with ⟨⟩ | ⟨⟩
    · replace h := selS_l h
      have w34 := e33_1 a0 a1 0 (.inl ()) q33
      simp only [E33_1, X33_1] at w34
      try simp -implicitDefEqProofs only [go_sem, Nat.reduceLT, Nat.reduceAdd, Nat.reduceSub, Nat.reduceMul, Nat.reduceEqDiff, Nat.reduceBEq, Nat.reduceLeDiff, Int.reduceToNat, Int.reduceLT, Int.reduceLE, Int.reduceEq, reduceCtorEq, ↓reduceIte] at w34
      cases h
      simp -implicitDefEqProofs only [go_sem, Nat.reduceLT, Nat.reduceAdd, Nat.reduceSub, Nat.reduceMul, Nat.reduceEqDiff, Nat.reduceBEq, Nat.reduceLeDiff, Int.reduceToNat, Int.reduceLT, Int.reduceLE, Int.reduceEq, reduceCtorEq, ↓reduceIte, i33, c33, b1, w34]
    · replace h := selS_r h
      have w34 := e33_1 a0 a1 0 (.inr ()) q33
      simp only [E33_1, X33_1] at w34
      try simp -implicitDefEqProofs only [go_sem, Nat.reduceLT, Nat.reduceAdd, Nat.reduceSub, Nat.reduceMul, Nat.reduceEqDiff, Nat.reduceBEq, Nat.reduceLeDiff, Int.reduceToNat, Int.reduceLT, Int.reduceLE, Int.reduceEq, reduceCtorEq, ↓reduceIte] at w34
      cases h
      simp -implicitDefEqProofs only [go_sem, Nat.reduceLT, Nat.reduceAdd, Nat.reduceSub, Nat.reduceMul, Nat.reduceEqDiff, Nat.reduceBEq, Nat.reduceLeDiff, Int.reduceToNat, Int.reduceLT, Int.reduceLE, Int.reduceEq, reduceCtorEq, ↓reduceIte, i33, c33, b1, w34]
-- f56 laws.eqIntSSS
theorem call56 (args : List AV) (S : St) : evCall T (evFL T) 56 args S = lendC (evFL T 56) S (lendAll S [[1], [1]] args) := evCall0 fn56 rfl rfl args S
theorem callz56 (args : List AV) (S : St) : evCallFz T (evFL T) 56 args S = lendZ (evFL T 56) S [[0]] (lendAll S [[1], [1]] args) := evCallFz0 fn56 rfl rfl args S
attribute [go_sem] call56 callz56
noncomputable def X56_1 (a0 : (List (List (List Int)))) (a1 : (List (List (List Int)))) (o : (Unit ⊕ Unit)) : Ex × Fr × St :=
  match o with
  | .inl o => (.exit 0, frOf 27 (anyF), [])
  | .inr o => (.ret, frOf 27 (upd anyF 4 (.bool false)), [])
noncomputable def E56_1 (a0 : (List (List (List Int)))) (a1 : (List (List (List Int)))) (s : Int) : Fr × St := (frOf 27 (upd (upd (upd anyF 0 (.ts .imm 1 (a0.map (encLLInt .imm)))) 1 (.ts .imm 1 (a1.map (encLLInt .imm)))) 5 (.int .i64 s)), [])
theorem b56_1 (a0 : (List (List (List Int)))) (a1 : (List (List (List Int)))) (s : Int) (o : Ctl Int (Unit ⊕ Unit)) (h : m56_1b a0 a1 s = some o) : evCL T 0 k56_1b (E56_1 a0 a1 s).1 (E56_1 a0 a1 s).2 = some (ctlX (E56_1 a0 a1) (X56_1 a0 a1) o) := by
  unfold m56_1b at h
  revert h
  generalize s = s17
  intro h
  try simp -implicitDefEqProofs only [go_sem, Nat.reduceLT, Nat.reduceAdd, Nat.reduceSub, Nat.reduceMul, Nat.reduceEqDiff, Nat.reduceBEq, Nat.reduceLeDiff, Int.reduceToNat, Int.reduceLT, Int.reduceLE, Int.reduceEq, reduceCtorEq, ↓reduceIte, E56_1, X56_1, k56_1b]
  cases b18 : (ltI s17 (↑a0.length : Int) : Bool)
  · replace h := br_f b18 h
    cases h
    simp -implicitDefEqProofs only [go_sem, Nat.reduceLT, Nat.reduceAdd, Nat.reduceSub, Nat.reduceMul, Nat.reduceEqDiff, Nat.reduceBEq, Nat.reduceLeDiff, Int.reduceToNat, Int.reduceLT, Int.reduceLE, Int.reduceEq, reduceCtorEq, ↓reduceIte, E56_1, X56_1, k56_1b, b18]
  · replace h := br_t b18 h
    obtain ⟨x19, q20, h⟩ := bnd_some h
    obtain ⟨g21, g22, g23⟩ := idx_row (encLLInt .imm) q20
    try simp -implicitDefEqProofs only [go_sem, Nat.reduceLT, Nat.reduceAdd, Nat.reduceSub, Nat.reduceMul, Nat.reduceEqDiff, Nat.reduceBEq, Nat.reduceLeDiff, Int.reduceToNat, Int.reduceLT, Int.reduceLE, Int.reduceEq, reduceCtorEq, ↓reduceIte] at g22
    try simp -implicitDefEqProofs only [go_sem, Nat.reduceLT, Nat.reduceAdd, Nat.reduceSub, Nat.reduceMul, Nat.reduceEqDiff, Nat.reduceBEq, Nat.reduceLeDiff, Int.reduceToNat, Int.reduceLT, Int.reduceLE, Int.reduceEq, reduceCtorEq, ↓reduceIte] at g23
    obtain ⟨x24, q25, h⟩ := bnd_some h
    obtain ⟨g26, g27, g28⟩ := idx_row (encLLInt .imm) q25
    try simp -implicitDefEqProofs only [go_sem, Nat.reduceLT, Nat.reduceAdd, Nat.reduceSub, Nat.reduceMul, Nat.reduceEqDiff, Nat.reduceBEq, Nat.reduceLeDiff, Int.reduceToNat, Int.reduceLT, Int.reduceLE, Int.reduceEq, reduceCtorEq, ↓reduceIte] at g27
    try simp -implicitDefEqProofs only [go_sem, Nat.reduceLT, Nat.reduceAdd, Nat.reduceSub, Nat.reduceMul, Nat.reduceEqDiff, Nat.reduceBEq, Nat.reduceLeDiff, Int.reduceToNat, Int.reduceLT, Int.reduceLE, Int.reduceEq, reduceCtorEq, ↓reduceIte] at g28
    obtain ⟨r31, q29, h⟩ := bnd_some h
    have w30 := e33 x19 x24 r31 q29
    try simp -implicitDefEqProofs only [go_sem, Nat.reduceLT, Nat.reduceAdd, Nat.reduceSub, Nat.reduceMul, Nat.reduceEqDiff, Nat.reduceBEq, Nat.reduceLeDiff, Int.reduceToNat, Int.reduceLT, Int.reduceLE, Int.reduceEq, reduceCtorEq, ↓reduceIte] at w30
    try simp -implicitDefEqProofs only [go_sem, Nat.reduceLT, Nat.reduceAdd, Nat.reduceSub, Nat.reduceMul, Nat.reduceEqDiff, Nat.reduceBEq, Nat.reduceLeDiff, Int.reduceToNat, Int.reduceLT, Int.reduceLE, Int.reduceEq, reduceCtorEq, ↓reduceIte, E56_1, X56_1, k56_1b, b18, g21, g22, g23, g26, g27, g28, w30]
    cases b32 : (r31 : Bool)
    · replace h := br_f b32 h
      cases h
      simp -implicitDefEqProofs only [go_sem, Nat.reduceLT, Nat.reduceAdd, Nat.reduceSub, Nat.reduceMul, Nat.reduceEqDiff, Nat.reduceBEq, Nat.reduceLeDiff, Int.reduceToNat, Int.reduceLT, Int.reduceLE, Int.reduceEq, reduceCtorEq, ↓reduceIte, E56_1, X56_1, k56_1b, b18, g21, g22, g23, g26, g27, g28, w30, b32]
    · replace h := br_t b32 h
      cases h
      simp -implicitDefEqProofs only [go_sem, Nat.reduceLT, Nat.reduceAdd, Nat.reduceSub, Nat.reduceMul, Nat.reduceEqDiff, Nat.reduceBEq, Nat.reduceLeDiff, Int.reduceToNat, Int.reduceLT, Int.reduceLE, Int.reduceEq, reduceCtorEq, ↓reduceIte, E56_1, X56_1, k56_1b, b18, g21, g22, g23, g26, g27, g28, w30, b32]
theorem e56_1 (a0 : (List (List (List Int)))) (a1 : (List (List (List Int)))) (s : Int) (o : (Unit ⊕ Unit)) (h : loopP (m56_1b a0 a1) s = some o) : evCL T 0 (.loop k56_1b) (E56_1 a0 a1 s).1 (E56_1 a0 a1 s).2 = some (X56_1 a0 a1 o) :=
  loop_walk (E := E56_1 a0 a1) (X := X56_1 a0 a1) (by intro b; rcases b with b | b <;> (simp only [X56_1]; nofun)) (b56_1 a0 a1) s o h
theorem e56 (a0 : (List (List (List Int)))) (a1 : (List (List (List Int)))) (r : Bool) (h : m56 a0 a1 = some r) : evFL T 56 [.ts .imm 1 (a0.map (encLLInt .imm)), .ts .imm 1 (a1.map (encLLInt .imm))] [] = some (.bool r, []) := by
  unfold m56 at h
  rw [evFL_at fn56 (Nat.le_of_ble_eq_true rfl) rfl (.inr rfl)]
  try simp -implicitDefEqProofs only [go_sem, Nat.reduceLT, Nat.reduceAdd, Nat.reduceSub, Nat.reduceMul, Nat.reduceEqDiff, Nat.reduceBEq, Nat.reduceLeDiff, Int.reduceToNat, Int.reduceLT, Int.reduceLE, Int.reduceEq, reduceCtorEq, ↓reduceIte, i56, c56]
  cases b1 : (eqI (↑a0.length : Int) (↑a1.length : Int) : Bool)
  · replace h := br_f b1 h
    cases h
    simp -implicitDefEqProofs only [go_sem, Nat.reduceLT, Nat.reduceAdd, Nat.reduceSub, Nat.reduceMul, Nat.reduceEqDiff, Nat.reduceBEq, Nat.reduceLeDiff, Int.reduceToNat, Int.reduceLT, Int.reduceLE, Int.reduceEq, reduceCtorEq, ↓reduceIte, i56, c56, b1]
  · replace h := br_t b1 h
    try simp -implicitDefEqProofs only [go_sem, Nat.reduceLT, Nat.reduceAdd, Nat.reduceSub, Nat.reduceMul, Nat.reduceEqDiff, Nat.reduceBEq, Nat.reduceLeDiff, Int.reduceToNat, Int.reduceLT, Int.reduceLE, Int.reduceEq, reduceCtorEq, ↓reduceIte, i56, c56, b1]
    obtain ⟨o, q33, h⟩ := bnd_some h
    rcases o with ⟨⟩ | ⟨⟩
    · replace h := selS_l h
      have w34 := e56_1 a0 a1 0 (.inl ()) q33
      simp only [E56_1, X56_1] at w34
      try simp -implicitDefEqProofs only [go_sem, Nat.reduceLT, Nat.reduceAdd, Nat.reduceSub, Nat.reduceMul, Nat.reduceEqDiff, Nat.reduceBEq, Nat.reduceLeDiff, Int.reduceToNat, Int.reduceLT, Int.reduceLE, Int.reduceEq, reduceCtorEq, ↓reduceIte] at w34
      cases h
      simp -implicitDefEqProofs only [go_sem, Nat.reduceLT, Nat.reduceAdd, Nat.reduceSub, Nat.reduceMul, Nat.reduceEqDiff, Nat.reduceBEq, Nat.reduceLeDiff, Int.reduceToNat, Int.reduceLT, Int.reduceLE, Int.reduceEq, reduceCtorEq, ↓reduceIte, i56, c56, b1, w34]
    · replace h := selS_r h
      have w34 := e56_1 a0 a1 0 (.inr ()) q33
      simp only [E56_1, X56_1] at w34
      try simp -implicitDefEqProofs only [go_sem, Nat.reduceLT, Nat.reduceAdd, Nat.reduceSub, Nat.reduceMul, Nat.reduceEqDiff, Nat.reduceBEq, Nat.reduceLeDiff, Int.reduceToNat, Int.reduceLT, Int.reduceLE, Int.reduceEq, reduceCtorEq, ↓reduceIte] at w34
      cases h
      simp -implicitDefEqProofs only [go_sem, Nat.reduceLT, Nat.reduceAdd, Nat.reduceSub, Nat.reduceMul, Nat.reduceEqDiff, Nat.reduceBEq, Nat.reduceLeDiff, Int.reduceToNat, Int.reduceLT, Int.reduceLE, Int.reduceEq, reduceCtorEq, ↓reduceIte, i56, c56, b1, w34]
-- f17 laws.eqSpp
theorem call17 (args : List AV) (S : St) : evCall T (evFL T) 17 args S = lendC (evFL T 17) S (lendAll S [[1], [1]] args) := evCall0 fn17 rfl rfl args S
theorem callz17 (args : List AV) (S : St) : evCallFz T (evFL T) 17 args S = lendZ (evFL T 17) S [[0]] (lendAll S [[1], [1]] args) := evCallFz0 fn17 rfl rfl args S
attribute [go_sem] call17 callz17
theorem e17 (a0 : Spp) (a1 : Spp) (r : Bool) (h : m17 a0 a1 = some r) : evFL T 17 [.agg [.ts .imm 1 (a0.ranked.map (encLLInt .imm))], .agg [.ts .imm 1 (a1.ranked.map (encLLInt .imm))]] [] = some (.bool r, []) := by
  unfold m17 at h
  rw [evFL_at fn17 (Nat.le_of_ble_eq_true rfl) rfl (.inr rfl)]
  obtain ⟨r3, q1, h⟩ := bnd_some h
  have w2 := e56 a0.ranked a1.ranked r3 q1
  try simp -implicitDefEqProofs only [go_sem, Nat.reduceLT, Nat.reduceAdd, Nat.reduceSub, Nat.reduceMul, Nat.reduceEqDiff, Nat.reduceBEq, Nat.reduceLeDiff, Int.reduceToNat, Int.reduceLT, Int.reduceLE, Int.reduceEq, reduceCtorEq, ↓reduceIte] at w2
  try simp -implicitDefEqProofs only [go_sem, Nat.reduceLT, Nat.reduceAdd, Nat.reduceSub, Nat.reduceMul, Nat.reduceEqDiff, Nat.reduceBEq, Nat.reduceLeDiff, Int.reduceToNat, Int.reduceLT, Int.reduceLE, Int.reduceEq, reduceCtorEq, ↓reduceIte, i17, c17, w2]
  cases b4 : (r3 : Bool)
  · replace h := br_f b4 h
    cases h
    simp -implicitDefEqProofs only [go_sem, Nat.reduceLT, Nat.reduceAdd, Nat.reduceSub, Nat.reduceMul, Nat.reduceEqDiff, Nat.reduceBEq, Nat.reduceLeDiff, Int.reduceToNat, Int.reduceLT, Int.reduceLE, Int.reduceEq, reduceCtorEq, ↓reduceIte, i17, c17, w2, b4]
  · replace h := br_t b4 h
    cases h
    simp -implicitDefEqProofs only [go_sem, Nat.reduceLT, Nat.reduceAdd, Nat.reduceSub, Nat.reduceMul, Nat.reduceEqDiff, Nat.reduceBEq, Nat.reduceLeDiff, Int.reduceToNat, Int.reduceLT, Int.reduceLE, Int.reduceEq, reduceCtorEq, ↓reduceIte, i17, c17, w2, b4]
-- f6 laws.FnExactHasWheel
theorem call6 (args : List AV) (S : St) : evCall T (evFL T) 6 args S = lendC (evFL T 6) S (lendAll S [[1]] args) := evCall0 fn6 rfl rfl args S
theorem callz6 (args : List AV) (S : St) : evCallFz T (evFL T) 6 args S = lendZ (evFL T 6) S [[0]] (lendAll S [[1]] args) := evCallFz0 fn6 rfl rfl args S
attribute [go_sem] call6 callz6
noncomputable def X6_1 (r10 : Bool) (r11 : Bool) (r16 : Bool) (r17 : Bool) (a0 : Spp) (r7 : Spp) (o : Bool) : Ex × Fr × St :=
  (.normal, frOf 40 (upd (upd (upd anyF 1 (.ptr 0 0 0)) 6 (.ptr 1 0 0)) 34 (.bool o)), [some ⟨.box, 1, [[.ts .imm 1 (a0.ranked.map (encLLInt .imm))]]⟩, some ⟨.box, 1, [[.sl 2 0 r7.ranked.length]]⟩, some ⟨.arr, 1, r7.ranked.map (encLLInt .own)⟩])
theorem e6_1 (r10 : Bool) (r11 : Bool) (r16 : Bool) (r17 : Bool) (a0 : Spp) (r7 : Spp) (o : Bool) (h : m6_1 r10 r11 r16 r17 = some o) : evCL T 0 k6_1 (frOf 40 (upd (upd (upd (upd (upd (upd anyF 1 (.ptr 0 0 0)) 4 (.bool r10)) 5 (.bool r11)) 6 (.ptr 1 0 0)) 7 (.bool r16)) 8 (.bool r17))) [some ⟨.box, 1, [[.ts .imm 1 (a0.ranked.map (encLLInt .imm))]]⟩, some ⟨.box, 1, [[.sl 2 0 r7.ranked.length]]⟩, some ⟨.arr, 1, r7.ranked.map (encLLInt .own)⟩] = some (X6_1 r10 r11 r16 r17 a0 r7 o) := by
  unfold m6_1 at h
  try simp -implicitDefEqProofs only [go_sem, Nat.reduceLT, Nat.reduceAdd, Nat.reduceSub, Nat.reduceMul, Nat.reduceEqDiff, Nat.reduceBEq, Nat.reduceLeDiff, Int.reduceToNat, Int.reduceLT, Int.reduceLE, Int.reduceEq, reduceCtorEq, ↓reduceIte, X6_1, k6_1]
  cases b18 : (eqB r16 r10 : Bool)
  · replace h := br_f b18 h
    cases h
    simp -implicitDefEqProofs only [go_sem, Nat.reduceLT, Nat.reduceAdd, Nat.reduceSub, Nat.reduceMul, Nat.reduceEqDiff, Nat.reduceBEq, Nat.reduceLeDiff, Int.reduceToNat, Int.reduceLT, Int.reduceLE, Int.reduceEq, reduceCtorEq, ↓reduceIte, X6_1, k6_1, b18]
  · replace h := br_t b18 h
    cases h
    simp -implicitDefEqProofs only [go_sem, Nat.reduceLT, Nat.reduceAdd, Nat.reduceSub, Nat.reduceMul, Nat.reduceEqDiff, Nat.reduceBEq, Nat.reduceLeDiff, Int.reduceToNat, Int.reduceLT, Int.reduceLE, Int.reduceEq, reduceCtorEq, ↓reduceIte, X6_1, k6_1, b18]
theorem e6 (a0 : Spp) (r : Bool) (h : m6 a0 = some r) : evFL T 6 [.agg [.ts .imm 1 (a0.ranked.map (encLLInt .imm))]] [] = some (.bool r, []) := by
  unfold m6 at h
  rw [evFL_at fn6 (Nat.le_of_ble_eq_true rfl) rfl (.inr rfl)]
  obtain ⟨r3, q1, h⟩ := bnd_some h
  have w2 := e13 a0 1048576 r3 q1
  try simp -implicitDefEqProofs only [go_sem, Nat.reduceLT, Nat.reduceAdd, Nat.reduceSub, Nat.reduceMul, Nat.reduceEqDiff, Nat.reduceBEq, Nat.reduceLeDiff, Int.reduceToNat, Int.reduceLT, Int.reduceLE, Int.reduceEq, reduceCtorEq, ↓reduceIte] at w2
  try simp -implicitDefEqProofs only [go_sem, Nat.reduceLT, Nat.reduceAdd, Nat.reduceSub, Nat.reduceMul, Nat.reduceEqDiff, Nat.reduceBEq, Nat.reduceLeDiff, Int.reduceToNat, Int.reduceLT, Int.reduceLE, Int.reduceEq, reduceCtorEq, ↓reduceIte, i6, c6, w2]
  cases b4 : (ltI r3 0 : Bool)
  · replace h := br_f b4 h
    obtain ⟨r7, q5, h⟩ := bnd_some h
    have w6 := e15 a0 r7 q5
    try simp -implicitDefEqProofs only [go_sem, Nat.reduceLT, Nat.reduceAdd, Nat.reduceSub, Nat.reduceMul, Nat.reduceEqDiff, Nat.reduceBEq, Nat.reduceLeDiff, Int.reduceToNat, Int.reduceLT, Int.reduceLE, Int.reduceEq, reduceCtorEq, ↓reduceIte] at w6
    obtain ⟨⟨r10, r11⟩, q8, h⟩ := bnd_some h
    replace h := sel2_some h
    have w9 := e24 r7 (r10, r11) q8
    try simp -implicitDefEqProofs only [go_sem, Nat.reduceLT, Nat.reduceAdd, Nat.reduceSub, Nat.reduceMul, Nat.reduceEqDiff, Nat.reduceBEq, Nat.reduceLeDiff, Int.reduceToNat, Int.reduceLT, Int.reduceLE, Int.reduceEq, reduceCtorEq, ↓reduceIte] at w9
    obtain ⟨⟨r16, r17⟩, q14, h⟩ := bnd_some h
    replace h := sel2_some h
    have w15 := e25 r7 (r16, r17) q14
    try simp -implicitDefEqProofs only [go_sem, Nat.reduceLT, Nat.reduceAdd, Nat.reduceSub, Nat.reduceMul, Nat.reduceEqDiff, Nat.reduceBEq, Nat.reduceLeDiff, Int.reduceToNat, Int.reduceLT, Int.reduceLE, Int.reduceEq, reduceCtorEq, ↓reduceIte] at w15
    obtain ⟨v21, q19, h⟩ := bnd_some h
    have w20 := e6_1 r10 r11 r16 r17 a0 r7 v21 q19
    simp only [X6_1] at w20
    try simp -implicitDefEqProofs only [go_sem, Nat.reduceLT, Nat.reduceAdd, Nat.reduceSub, Nat.reduceMul, Nat.reduceEqDiff, Nat.reduceBEq, Nat.reduceLeDiff, Int.reduceToNat, Int.reduceLT, Int.reduceLE, Int.reduceEq, reduceCtorEq, ↓reduceIte] at w20
    try simp -implicitDefEqProofs only [go_sem, Nat.reduceLT, Nat.reduceAdd, Nat.reduceSub, Nat.reduceMul, Nat.reduceEqDiff, Nat.reduceBEq, Nat.reduceLeDiff, Int.reduceToNat, Int.reduceLT, Int.reduceLE, Int.reduceEq, reduceCtorEq, ↓reduceIte, i6, c6, w2, b4, w6, w9, w15, w20]
    cases b22 : (v21 : Bool)
    · replace h := br_f b22 h
      obtain ⟨r27, q25, h⟩ := bnd_some h
      have w26 := e17 r7 r7 r27 q25
      try simp -implicitDefEqProofs only [go_sem, Nat.reduceLT, Nat.reduceAdd, Nat.reduceSub, Nat.reduceMul, Nat.reduceEqDiff, Nat.reduceBEq, Nat.reduceLeDiff, Int.reduceToNat, Int.reduceLT, Int.reduceLE, Int.reduceEq, reduceCtorEq, ↓reduceIte] at w26
      try simp -implicitDefEqProofs only [go_sem, Nat.reduceLT, Nat.reduceAdd, Nat.reduceSub, Nat.reduceMul, Nat.reduceEqDiff, Nat.reduceBEq, Nat.reduceLeDiff, Int.reduceToNat, Int.reduceLT, Int.reduceLE, Int.reduceEq, reduceCtorEq, ↓reduceIte, i6, c6, w2, b4, w6, w9, w15, w20, b22, w26]
      cases b28 : (r27 : Bool)
      · replace h := br_f b28 h
        cases h
        simp -implicitDefEqProofs only [go_sem, Nat.reduceLT, Nat.reduceAdd, Nat.reduceSub, Nat.reduceMul, Nat.reduceEqDiff, Nat.reduceBEq, Nat.reduceLeDiff, Int.reduceToNat, Int.reduceLT, Int.reduceLE, Int.reduceEq, reduceCtorEq, ↓reduceIte, i6, c6, w2, b4, w6, w9, w15, w20, b22, w26, b28]
      · replace h := br_t b28 h
        cases h
        simp -implicitDefEqProofs only [go_sem, Nat.reduceLT, Nat.reduceAdd, Nat.reduceSub, Nat.reduceMul, Nat.reduceEqDiff, Nat.reduceBEq, Nat.reduceLeDiff, Int.reduceToNat, Int.reduceLT, Int.reduceLE, Int.reduceEq, reduceCtorEq, ↓reduceIte, i6, c6, w2, b4, w6, w9, w15, w20, b22, w26, b28]
    · replace h := br_t b22 h
      cases h
      simp -implicitDefEqProofs only [go_sem, Nat.reduceLT, Nat.reduceAdd, Nat.reduceSub, Nat.reduceMul, Nat.reduceEqDiff, Nat.reduceBEq, Nat.reduceLeDiff, Int.reduceToNat, Int.reduceLT, Int.reduceLE, Int.reduceEq, reduceCtorEq, ↓reduceIte, i6, c6, w2, b4, w6, w9, w15, w20, b22]
  · replace h := br_t b4 h
    cases h
    simp -implicitDefEqProofs only [go_sem, Nat.reduceLT, Nat.reduceAdd, Nat.reduceSub, Nat.reduceMul, Nat.reduceEqDiff, Nat.reduceBEq, Nat.reduceLeDiff, Int.reduceToNat, Int.reduceLT, Int.reduceLE, Int.reduceEq, reduceCtorEq, ↓reduceIte, i6, c6, w2, b4]
end Go.Pi.Ytpfoleebeamgpaa.HasWheel
