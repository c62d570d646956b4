/- What functions of the program answer, and that the law answers true at every input; no condition -/
import Derived.Test.YtcihklkihglmjaaStepSessionTabStepSession
import Derived.Test.YtcihklkihglmjaaStepSessionModStepSession
set_option linter.all false
/- Functions of the program: that the code answers as the plain functions do. -/
namespace Go.Pi.Ytcihklkihglmjaa.StepSession
open Go Go.Proofs Go.Pi
set_option maxRecDepth 100000
set_option linter.all false
def encInt (x : Int) : List AV := [.int .i64 x]
attribute [go_sem] encInt
theorem sq_encInt (q : Ql) (x : Int) : setQL q (encInt x) = encInt x := by simp [encInt]
theorem sqm_encInt (q : Ql) (xs : List Int) : setQLL q (xs.map encInt) = xs.map encInt := by rw [setQLL_map]; exact List.map_congr_left (fun x _ => sq_encInt q x)
theorem ow_encInt (x : Int) : ownOnlyL (encInt x) = true := by simp [encInt, ownOnlyL, ownOnly, ownLL_map]
theorem owm_encInt (xs : List Int) : ownOnlyLL (xs.map encInt) = true := ownLL_map _ ow_encInt xs
theorem fi_encInt (x : Int) : fine.fineL (encInt x) = true := by simp [encInt, fine.fineL, fine, fineLL_map]
theorem fim_encInt (xs : List Int) : fine.fineLL (xs.map encInt) = true := fineLL_map _ fi_encInt xs
theorem nu_encInt (x : Int) : nude.nudeL (encInt x) = true := by simp [encInt, nude.nudeL, nude, nudeLL_map]
theorem num_encInt (xs : List Int) : nude.nudeLL (xs.map encInt) = true := nudeLL_map _ nu_encInt xs
attribute [simp] sqm_encInt ow_encInt owm_encInt fi_encInt fim_encInt nu_encInt num_encInt
attribute [go_sem] sqm_encInt owm_encInt fim_encInt num_encInt
def encSession (x : Session) : List AV := [.int .i64 x.state, .int .i64 x.hold, .int .i64 x.left, .int .i64 x.quiet, .int .i64 x.ups]
attribute [go_sem] encSession
theorem sq_encSession (q : Ql) (x : Session) : setQL q (encSession x) = encSession x := by simp [encSession]
theorem sqm_encSession (q : Ql) (xs : List Session) : setQLL q (xs.map encSession) = xs.map encSession := by rw [setQLL_map]; exact List.map_congr_left (fun x _ => sq_encSession q x)
theorem ow_encSession (x : Session) : ownOnlyL (encSession x) = true := by simp [encSession, ownOnlyL, ownOnly, ownLL_map]
theorem owm_encSession (xs : List Session) : ownOnlyLL (xs.map encSession) = true := ownLL_map _ ow_encSession xs
theorem fi_encSession (x : Session) : fine.fineL (encSession x) = true := by simp [encSession, fine.fineL, fine, fineLL_map]
theorem fim_encSession (xs : List Session) : fine.fineLL (xs.map encSession) = true := fineLL_map _ fi_encSession xs
theorem nu_encSession (x : Session) : nude.nudeL (encSession x) = true := by simp [encSession, nude.nudeL, nude, nudeLL_map]
theorem num_encSession (xs : List Session) : nude.nudeLL (xs.map encSession) = true := nudeLL_map _ nu_encSession xs
attribute [simp] sqm_encSession ow_encSession owm_encSession fi_encSession fim_encSession nu_encSession num_encSession
attribute [go_sem] sqm_encSession owm_encSession fim_encSession num_encSession
def encEvt (x : Evt) : List AV := [.int .i64 x.kind, .int .i64 x.n]
attribute [go_sem] encEvt
theorem sq_encEvt (q : Ql) (x : Evt) : setQL q (encEvt x) = encEvt x := by simp [encEvt]
theorem sqm_encEvt (q : Ql) (xs : List Evt) : setQLL q (xs.map encEvt) = xs.map encEvt := by rw [setQLL_map]; exact List.map_congr_left (fun x _ => sq_encEvt q x)
theorem ow_encEvt (x : Evt) : ownOnlyL (encEvt x) = true := by simp [encEvt, ownOnlyL, ownOnly, ownLL_map]
theorem owm_encEvt (xs : List Evt) : ownOnlyLL (xs.map encEvt) = true := ownLL_map _ ow_encEvt xs
theorem fi_encEvt (x : Evt) : fine.fineL (encEvt x) = true := by simp [encEvt, fine.fineL, fine, fineLL_map]
theorem fim_encEvt (xs : List Evt) : fine.fineLL (xs.map encEvt) = true := fineLL_map _ fi_encEvt xs
theorem nu_encEvt (x : Evt) : nude.nudeL (encEvt x) = true := by simp [encEvt, nude.nudeL, nude, nudeLL_map]
theorem num_encEvt (xs : List Evt) : nude.nudeLL (xs.map encEvt) = true := nudeLL_map _ nu_encEvt xs
attribute [simp] sqm_encEvt ow_encEvt owm_encEvt fi_encEvt fim_encEvt nu_encEvt num_encEvt
attribute [go_sem] sqm_encEvt owm_encEvt fim_encEvt num_encEvt
def encBool (x : Bool) : List AV := [.bool x]
attribute [go_sem] encBool
theorem sq_encBool (q : Ql) (x : Bool) : setQL q (encBool x) = encBool x := by simp [encBool]
theorem sqm_encBool (q : Ql) (xs : List Bool) : setQLL q (xs.map encBool) = xs.map encBool := by rw [setQLL_map]; exact List.map_congr_left (fun x _ => sq_encBool q x)
theorem ow_encBool (x : Bool) : ownOnlyL (encBool x) = true := by simp [encBool, ownOnlyL, ownOnly, ownLL_map]
theorem owm_encBool (xs : List Bool) : ownOnlyLL (xs.map encBool) = true := ownLL_map _ ow_encBool xs
theorem fi_encBool (x : Bool) : fine.fineL (encBool x) = true := by simp [encBool, fine.fineL, fine, fineLL_map]
theorem fim_encBool (xs : List Bool) : fine.fineLL (xs.map encBool) = true := fineLL_map _ fi_encBool xs
theorem nu_encBool (x : Bool) : nude.nudeL (encBool x) = true := by simp [encBool, nude.nudeL, nude, nudeLL_map]
theorem num_encBool (xs : List Bool) : nude.nudeLL (xs.map encBool) = true := nudeLL_map _ nu_encBool xs
attribute [simp] sqm_encBool ow_encBool owm_encBool fi_encBool fim_encBool nu_encBool num_encBool
attribute [go_sem] sqm_encBool owm_encBool fim_encBool num_encBool
def encLInt (q : Ql) (x : (List Int)) : List AV := [.ts q 1 (x.map encInt)]
attribute [go_sem] encLInt
theorem sq_encLInt (q q1 : Ql) (x : (List Int)) : setQL q (encLInt q1 x) = encLInt q x := by simp [encLInt, sq_encInt]
theorem sqm_encLInt (q q1 : Ql) (xs : List (List Int)) : setQLL q (xs.map (encLInt q1)) = xs.map (encLInt q) := by rw [setQLL_map]; exact List.map_congr_left (fun x _ => sq_encLInt q q1 x)
theorem ow_encLInt (x : (List Int)) : ownOnlyL (encLInt .own x) = true := by simp [encLInt, ownOnlyL, ownOnly, ownLL_map]
theorem owm_encLInt (xs : List (List Int)) : ownOnlyLL (xs.map (encLInt .own)) = true := ownLL_map _ ow_encLInt xs
theorem fi_encLInt (x : (List Int)) : fine.fineL (encLInt .own x) = true := by simp [encLInt, fine.fineL, fine, fineLL_map]
theorem fim_encLInt (xs : List (List Int)) : fine.fineLL (xs.map (encLInt .own)) = true := fineLL_map _ fi_encLInt xs
theorem nu_encLInt (x : (List Int)) : nude.nudeL (encLInt .own x) = true := by simp [encLInt, nude.nudeL, nude, nudeLL_map]
theorem num_encLInt (xs : List (List Int)) : nude.nudeLL (xs.map (encLInt .own)) = true := nudeLL_map _ nu_encLInt xs
attribute [simp] sqm_encLInt ow_encLInt owm_encLInt fi_encLInt fim_encLInt nu_encLInt num_encLInt
attribute [go_sem] sqm_encLInt owm_encLInt fim_encLInt num_encLInt
-- f15 laws.toSession
theorem call15 (args : List AV) (S : St) : evCall T (evFL T) 15 args S = lendC (evFL T 15) S (lendAll S [[0, 0, 0, 0, 0]] args) := evCall0 fn15 rfl rfl args S
theorem callz15 (args : List AV) (S : St) : evCallFz T (evFL T) 15 args S = lendZ (evFL T 15) S [[0, 0, 0, 0, 0]] (lendAll S [[0, 0, 0, 0, 0]] args) := evCallFz0 fn15 rfl rfl args S
attribute [go_sem] call15 callz15
theorem e15 (a0 : Session) (r : Session) (h : m15 a0 = some r) : evFL T 15 [.agg [.int .i64 a0.state, .int .i64 a0.hold, .int .i64 a0.left, .int .i64 a0.quiet, .int .i64 a0.ups]] [] = some (.agg [.int .i64 r.state, .int .i64 r.hold, .int .i64 r.left, .int .i64 r.quiet, .int .i64 r.ups], []) := by
  unfold m15 at h
  rw [evFL_at fn15 (Nat.le_of_ble_eq_true rfl) rfl (.inr rfl)]
  cases h
  simp -implicitDefEqProofs only [go_sem, Nat.reduceLT, Nat.reduceAdd, Nat.reduceSub, Nat.reduceMul, Nat.reduceEqDiff, Nat.reduceBEq, Nat.reduceLeDiff, Int.reduceToNat, Int.reduceLT, Int.reduceLE, Int.reduceEq, reduceCtorEq, ↓reduceIte, i15, c15]
-- f20 laws.toEvent
theorem call20 (args : List AV) (S : St) : evCall T (evFL T) 20 args S = lendC (evFL T 20) S (lendAll S [[0, 0]] args) := evCall0 fn20 rfl rfl args S
theorem callz20 (args : List AV) (S : St) : evCallFz T (evFL T) 20 args S = lendZ (evFL T 20) S [[0, 0]] (lendAll S [[0, 0]] args) := evCallFz0 fn20 rfl rfl args S
attribute [go_sem] call20 callz20
theorem e20 (a0 : Evt) (r : Evt) (h : m20 a0 = some r) : evFL T 20 [.agg [.int .i64 a0.kind, .int .i64 a0.n]] [] = some (.agg [.int .i64 r.kind, .int .i64 r.n], []) := by
  unfold m20 at h
  rw [evFL_at fn20 (Nat.le_of_ble_eq_true rfl) rfl (.inr rfl)]
  cases h
  simp -implicitDefEqProofs only [go_sem, Nat.reduceLT, Nat.reduceAdd, Nat.reduceSub, Nat.reduceMul, Nat.reduceEqDiff, Nat.reduceBEq, Nat.reduceLeDiff, Int.reduceToNat, Int.reduceLT, Int.reduceLE, Int.reduceEq, reduceCtorEq, ↓reduceIte, i20, c20]
-- f39 spec.l1In
def X39_1 (a0 : Int) (a1 : Int) (a2 : Int) (o : Bool) : Ex × Fr × St :=
  (.normal, frOf 15 (upd anyF 6 (.bool o)), [])
theorem e39_1 (a0 : Int) (a1 : Int) (a2 : Int) (o : Bool) (h : m39_1 a0 a1 a2 = some o) : evCL T 0 k39_1 (frOf 15 (upd (upd (upd anyF 0 (.int .i64 a0)) 1 (.int .i64 a1)) 2 (.int .i64 a2))) [] = some (X39_1 a0 a1 a2 o) := by
  unfold m39_1 at h
  try simp -implicitDefEqProofs only [go_sem, Nat.reduceLT, Nat.reduceAdd, Nat.reduceSub, Nat.reduceMul, Nat.reduceEqDiff, Nat.reduceBEq, Nat.reduceLeDiff, Int.reduceToNat, Int.reduceLT, Int.reduceLE, Int.reduceEq, reduceCtorEq, ↓reduceIte, X39_1, k39_1]
  cases b1 : (leI a1 a0 : Bool)
  · replace h := br_f b1 h
    cases h
    simp -implicitDefEqProofs only [go_sem, Nat.reduceLT, Nat.reduceAdd, Nat.reduceSub, Nat.reduceMul, Nat.reduceEqDiff, Nat.reduceBEq, Nat.reduceLeDiff, Int.reduceToNat, Int.reduceLT, Int.reduceLE, Int.reduceEq, reduceCtorEq, ↓reduceIte, X39_1, k39_1, b1]
  · replace h := br_t b1 h
    cases h
    simp -implicitDefEqProofs only [go_sem, Nat.reduceLT, Nat.reduceAdd, Nat.reduceSub, Nat.reduceMul, Nat.reduceEqDiff, Nat.reduceBEq, Nat.reduceLeDiff, Int.reduceToNat, Int.reduceLT, Int.reduceLE, Int.reduceEq, reduceCtorEq, ↓reduceIte, X39_1, k39_1, b1]
theorem call39 (args : List AV) (S : St) : evCall T (evFL T) 39 args S = lendC (evFL T 39) S (lendAll S [[0], [0], [0]] args) := evCall0 fn39 rfl rfl args S
theorem callz39 (args : List AV) (S : St) : evCallFz T (evFL T) 39 args S = lendZ (evFL T 39) S [[0]] (lendAll S [[0], [0], [0]] args) := evCallFz0 fn39 rfl rfl args S
attribute [go_sem] call39 callz39
theorem e39 (a0 : Int) (a1 : Int) (a2 : Int) (r : Bool) (h : m39 a0 a1 a2 = some r) : evFL T 39 [.int .i64 a0, .int .i64 a1, .int .i64 a2] [] = some (.bool r, []) := by
  unfold m39 at h
  rw [evFL_at fn39 (Nat.le_of_ble_eq_true rfl) rfl (.inr rfl)]
  obtain ⟨v4, q2, h⟩ := bnd_some h
  have w3 := e39_1 a0 a1 a2 v4 q2
  simp only [X39_1] at w3
  try simp -implicitDefEqProofs only [go_sem, Nat.reduceLT, Nat.reduceAdd, Nat.reduceSub, Nat.reduceMul, Nat.reduceEqDiff, Nat.reduceBEq, Nat.reduceLeDiff, Int.reduceToNat, Int.reduceLT, Int.reduceLE, Int.reduceEq, reduceCtorEq, ↓reduceIte] at w3
  cases h
  simp -implicitDefEqProofs only [go_sem, Nat.reduceLT, Nat.reduceAdd, Nat.reduceSub, Nat.reduceMul, Nat.reduceEqDiff, Nat.reduceBEq, Nat.reduceLeDiff, Int.reduceToNat, Int.reduceLT, Int.reduceLE, Int.reduceEq, reduceCtorEq, ↓reduceIte, i39, c39, w3]
-- f14 spec.GoodSession
def X14_1 (a0 : Session) (o : Bool) : Ex × Fr × St :=
  (.normal, frOf 50 (upd (upd anyF 1 (.ptr 0 0 0)) 18 (.bool o)), [some ⟨.box, 5, [[.int .i64 a0.state, .int .i64 a0.hold, .int .i64 a0.left, .int .i64 a0.quiet, .int .i64 a0.ups]]⟩])
theorem e14_1 (a0 : Session) (o : Bool) (h : m14_1 a0 = some o) : evCL T 0 k14_1 (frOf 50 (upd anyF 1 (.ptr 0 0 0))) [some ⟨.box, 5, [[.int .i64 a0.state, .int .i64 a0.hold, .int .i64 a0.left, .int .i64 a0.quiet, .int .i64 a0.ups]]⟩] = some (X14_1 a0 o) := by
  unfold m14_1 at h
  obtain ⟨r3, q1, h⟩ := bnd_some h
  have w2 := e39 a0.state 0 4 r3 q1
  try simp -implicitDefEqProofs only [go_sem, Nat.reduceLT, Nat.reduceAdd, Nat.reduceSub, Nat.reduceMul, Nat.reduceEqDiff, Nat.reduceBEq, Nat.reduceLeDiff, Int.reduceToNat, Int.reduceLT, Int.reduceLE, Int.reduceEq, reduceCtorEq, ↓reduceIte] at w2
  try simp -implicitDefEqProofs only [go_sem, Nat.reduceLT, Nat.reduceAdd, Nat.reduceSub, Nat.reduceMul, Nat.reduceEqDiff, Nat.reduceBEq, Nat.reduceLeDiff, Int.reduceToNat, Int.reduceLT, Int.reduceLE, Int.reduceEq, reduceCtorEq, ↓reduceIte, X14_1, k14_1, w2]
  cases b4 : (r3 : Bool)
  · replace h := br_f b4 h
    cases h
    simp -implicitDefEqProofs only [go_sem, Nat.reduceLT, Nat.reduceAdd, Nat.reduceSub, Nat.reduceMul, Nat.reduceEqDiff, Nat.reduceBEq, Nat.reduceLeDiff, Int.reduceToNat, Int.reduceLT, Int.reduceLE, Int.reduceEq, reduceCtorEq, ↓reduceIte, X14_1, k14_1, w2, b4]
  · replace h := br_t b4 h
    obtain ⟨r7, q5, h⟩ := bnd_some h
    have w6 := e39 a0.hold 3 90 r7 q5
    try simp -implicitDefEqProofs only [go_sem, Nat.reduceLT, Nat.reduceAdd, Nat.reduceSub, Nat.reduceMul, Nat.reduceEqDiff, Nat.reduceBEq, Nat.reduceLeDiff, Int.reduceToNat, Int.reduceLT, Int.reduceLE, Int.reduceEq, reduceCtorEq, ↓reduceIte] at w6
    try simp -implicitDefEqProofs only [go_sem, Nat.reduceLT, Nat.reduceAdd, Nat.reduceSub, Nat.reduceMul, Nat.reduceEqDiff, Nat.reduceBEq, Nat.reduceLeDiff, Int.reduceToNat, Int.reduceLT, Int.reduceLE, Int.reduceEq, reduceCtorEq, ↓reduceIte, X14_1, k14_1, w2, b4, w6]
    cases b8 : (r7 : Bool)
    · replace h := br_f b8 h
      cases h
      simp -implicitDefEqProofs only [go_sem, Nat.reduceLT, Nat.reduceAdd, Nat.reduceSub, Nat.reduceMul, Nat.reduceEqDiff, Nat.reduceBEq, Nat.reduceLeDiff, Int.reduceToNat, Int.reduceLT, Int.reduceLE, Int.reduceEq, reduceCtorEq, ↓reduceIte, X14_1, k14_1, w2, b4, w6, b8]
    · replace h := br_t b8 h
      obtain ⟨r11, q9, h⟩ := bnd_some h
      have w10 := e39 a0.ups 0 1000 r11 q9
      try simp -implicitDefEqProofs only [go_sem, Nat.reduceLT, Nat.reduceAdd, Nat.reduceSub, Nat.reduceMul, Nat.reduceEqDiff, Nat.reduceBEq, Nat.reduceLeDiff, Int.reduceToNat, Int.reduceLT, Int.reduceLE, Int.reduceEq, reduceCtorEq, ↓reduceIte] at w10
      cases h
      simp -implicitDefEqProofs only [go_sem, Nat.reduceLT, Nat.reduceAdd, Nat.reduceSub, Nat.reduceMul, Nat.reduceEqDiff, Nat.reduceBEq, Nat.reduceLeDiff, Int.reduceToNat, Int.reduceLT, Int.reduceLE, Int.reduceEq, reduceCtorEq, ↓reduceIte, X14_1, k14_1, w2, b4, w6, b8, w10]
def X14_2 (a0 : Session) (p16 : Bool) (o : Bool) : Ex × Fr × St :=
  (.normal, frOf 50 (upd (upd (upd anyF 1 (.ptr 0 0 0)) 20 (.int .i64 a0.state)) 21 (.bool o)), [some ⟨.box, 5, [[.int .i64 a0.state, .int .i64 a0.hold, .int .i64 a0.left, .int .i64 a0.quiet, .int .i64 a0.ups]]⟩])
theorem e14_2 (a0 : Session) (p16 : Bool) (o : Bool) (h : m14_2 a0 p16 = some o) : evCL T 0 k14_2 (frOf 50 (upd (upd (upd anyF 1 (.ptr 0 0 0)) 20 (.int .i64 a0.state)) 21 (.bool p16))) [some ⟨.box, 5, [[.int .i64 a0.state, .int .i64 a0.hold, .int .i64 a0.left, .int .i64 a0.quiet, .int .i64 a0.ups]]⟩] = some (X14_2 a0 p16 o) := by
  unfold m14_2 at h
  try simp -implicitDefEqProofs only [go_sem, Nat.reduceLT, Nat.reduceAdd, Nat.reduceSub, Nat.reduceMul, Nat.reduceEqDiff, Nat.reduceBEq, Nat.reduceLeDiff, Int.reduceToNat, Int.reduceLT, Int.reduceLE, Int.reduceEq, reduceCtorEq, ↓reduceIte, X14_2, k14_2]
  cases b17 : (p16 : Bool)
  · replace h := br_f b17 h
    cases h
    simp -implicitDefEqProofs only [go_sem, Nat.reduceLT, Nat.reduceAdd, Nat.reduceSub, Nat.reduceMul, Nat.reduceEqDiff, Nat.reduceBEq, Nat.reduceLeDiff, Int.reduceToNat, Int.reduceLT, Int.reduceLE, Int.reduceEq, reduceCtorEq, ↓reduceIte, X14_2, k14_2, b17]
  · replace h := br_t b17 h
    cases h
    simp -implicitDefEqProofs only [go_sem, Nat.reduceLT, Nat.reduceAdd, Nat.reduceSub, Nat.reduceMul, Nat.reduceEqDiff, Nat.reduceBEq, Nat.reduceLeDiff, Int.reduceToNat, Int.reduceLT, Int.reduceLE, Int.reduceEq, reduceCtorEq, ↓reduceIte, X14_2, k14_2, b17]
def X14_3 (a0 : Session) (o : Bool) : Ex × Fr × St :=
  (.normal, frOf 50 (upd anyF 2 (.bool o)), [])
theorem e14_3 (a0 : Session) (o : Bool) (h : m14_3 a0 = some o) : evCL T 0 k14_3 (frOf 50 (upd anyF 1 (.ptr 0 0 0))) [some ⟨.box, 5, [[.int .i64 a0.state, .int .i64 a0.hold, .int .i64 a0.left, .int .i64 a0.quiet, .int .i64 a0.ups]]⟩] = some (X14_3 a0 o) := by
  unfold m14_3 at h
  try simp -implicitDefEqProofs only [go_sem, Nat.reduceLT, Nat.reduceAdd, Nat.reduceSub, Nat.reduceMul, Nat.reduceEqDiff, Nat.reduceBEq, Nat.reduceLeDiff, Int.reduceToNat, Int.reduceLT, Int.reduceLE, Int.reduceEq, reduceCtorEq, ↓reduceIte, X14_3, k14_3]
  cases b22 : (eqI a0.left 0 : Bool)
  · replace h := br_f b22 h
    cases h
    simp -implicitDefEqProofs only [go_sem, Nat.reduceLT, Nat.reduceAdd, Nat.reduceSub, Nat.reduceMul, Nat.reduceEqDiff, Nat.reduceBEq, Nat.reduceLeDiff, Int.reduceToNat, Int.reduceLT, Int.reduceLE, Int.reduceEq, reduceCtorEq, ↓reduceIte, X14_3, k14_3, b22]
  · replace h := br_t b22 h
    cases h
    simp -implicitDefEqProofs only [go_sem, Nat.reduceLT, Nat.reduceAdd, Nat.reduceSub, Nat.reduceMul, Nat.reduceEqDiff, Nat.reduceBEq, Nat.reduceLeDiff, Int.reduceToNat, Int.reduceLT, Int.reduceLE, Int.reduceEq, reduceCtorEq, ↓reduceIte, X14_3, k14_3, b22]
def X14_4 (a0 : Session) (o : Bool) : Ex × Fr × St :=
  (.normal, frOf 50 (upd anyF 2 (.bool o)), [])
theorem e14_4 (a0 : Session) (o : Bool) (h : m14_4 a0 = some o) : evCL T 0 k14_4 (frOf 50 (upd anyF 1 (.ptr 0 0 0))) [some ⟨.box, 5, [[.int .i64 a0.state, .int .i64 a0.hold, .int .i64 a0.left, .int .i64 a0.quiet, .int .i64 a0.ups]]⟩] = some (X14_4 a0 o) := by
  unfold m14_4 at h
  obtain ⟨r29, q27, h⟩ := bnd_some h
  have w28 := e39 a0.left 1 90 r29 q27
  try simp -implicitDefEqProofs only [go_sem, Nat.reduceLT, Nat.reduceAdd, Nat.reduceSub, Nat.reduceMul, Nat.reduceEqDiff, Nat.reduceBEq, Nat.reduceLeDiff, Int.reduceToNat, Int.reduceLT, Int.reduceLE, Int.reduceEq, reduceCtorEq, ↓reduceIte] at w28
  try simp -implicitDefEqProofs only [go_sem, Nat.reduceLT, Nat.reduceAdd, Nat.reduceSub, Nat.reduceMul, Nat.reduceEqDiff, Nat.reduceBEq, Nat.reduceLeDiff, Int.reduceToNat, Int.reduceLT, Int.reduceLE, Int.reduceEq, reduceCtorEq, ↓reduceIte, X14_4, k14_4, w28]
  cases b30 : (r29 : Bool)
  · replace h := br_f b30 h
    cases h
    simp -implicitDefEqProofs only [go_sem, Nat.reduceLT, Nat.reduceAdd, Nat.reduceSub, Nat.reduceMul, Nat.reduceEqDiff, Nat.reduceBEq, Nat.reduceLeDiff, Int.reduceToNat, Int.reduceLT, Int.reduceLE, Int.reduceEq, reduceCtorEq, ↓reduceIte, X14_4, k14_4, w28, b30]
  · replace h := br_t b30 h
    cases h
    simp -implicitDefEqProofs only [go_sem, Nat.reduceLT, Nat.reduceAdd, Nat.reduceSub, Nat.reduceMul, Nat.reduceEqDiff, Nat.reduceBEq, Nat.reduceLeDiff, Int.reduceToNat, Int.reduceLT, Int.reduceLE, Int.reduceEq, reduceCtorEq, ↓reduceIte, X14_4, k14_4, w28, b30]
def X14_5 (a0 : Session) (o : Bool) : Ex × Fr × St :=
  (.normal, frOf 50 (upd anyF 2 (.bool o)), [])
theorem e14_5 (a0 : Session) (o : Bool) (h : m14_5 a0 = some o) : evCL T 0 k14_5 (frOf 50 (upd anyF 1 (.ptr 0 0 0))) [some ⟨.box, 5, [[.int .i64 a0.state, .int .i64 a0.hold, .int .i64 a0.left, .int .i64 a0.quiet, .int .i64 a0.ups]]⟩] = some (X14_5 a0 o) := by
  unfold m14_5 at h
  obtain ⟨r36, q34, h⟩ := bnd_some h
  have w35 := e39 a0.left 1 90 r36 q34
  try simp -implicitDefEqProofs only [go_sem, Nat.reduceLT, Nat.reduceAdd, Nat.reduceSub, Nat.reduceMul, Nat.reduceEqDiff, Nat.reduceBEq, Nat.reduceLeDiff, Int.reduceToNat, Int.reduceLT, Int.reduceLE, Int.reduceEq, reduceCtorEq, ↓reduceIte] at w35
  try simp -implicitDefEqProofs only [go_sem, Nat.reduceLT, Nat.reduceAdd, Nat.reduceSub, Nat.reduceMul, Nat.reduceEqDiff, Nat.reduceBEq, Nat.reduceLeDiff, Int.reduceToNat, Int.reduceLT, Int.reduceLE, Int.reduceEq, reduceCtorEq, ↓reduceIte, X14_5, k14_5, w35]
  cases b37 : (r36 : Bool)
  · replace h := br_f b37 h
    cases h
    simp -implicitDefEqProofs only [go_sem, Nat.reduceLT, Nat.reduceAdd, Nat.reduceSub, Nat.reduceMul, Nat.reduceEqDiff, Nat.reduceBEq, Nat.reduceLeDiff, Int.reduceToNat, Int.reduceLT, Int.reduceLE, Int.reduceEq, reduceCtorEq, ↓reduceIte, X14_5, k14_5, w35, b37]
  · replace h := br_t b37 h
    obtain ⟨r40, q38, h⟩ := bnd_some h
    have w39 := e39 a0.quiet 1 30 r40 q38
    try simp -implicitDefEqProofs only [go_sem, Nat.reduceLT, Nat.reduceAdd, Nat.reduceSub, Nat.reduceMul, Nat.reduceEqDiff, Nat.reduceBEq, Nat.reduceLeDiff, Int.reduceToNat, Int.reduceLT, Int.reduceLE, Int.reduceEq, reduceCtorEq, ↓reduceIte] at w39
    cases h
    simp -implicitDefEqProofs only [go_sem, Nat.reduceLT, Nat.reduceAdd, Nat.reduceSub, Nat.reduceMul, Nat.reduceEqDiff, Nat.reduceBEq, Nat.reduceLeDiff, Int.reduceToNat, Int.reduceLT, Int.reduceLE, Int.reduceEq, reduceCtorEq, ↓reduceIte, X14_5, k14_5, w35, b37, w39]
theorem call14 (args : List AV) (S : St) : evCall T (evFL T) 14 args S = lendC (evFL T 14) S (lendAll S [[0, 0, 0, 0, 0]] args) := evCall0 fn14 rfl rfl args S
theorem callz14 (args : List AV) (S : St) : evCallFz T (evFL T) 14 args S = lendZ (evFL T 14) S [[0]] (lendAll S [[0, 0, 0, 0, 0]] args) := evCallFz0 fn14 rfl rfl args S
attribute [go_sem] call14 callz14
theorem e14 (a0 : Session) (r : Bool) (h : m14 a0 = some r) : evFL T 14 [.agg [.int .i64 a0.state, .int .i64 a0.hold, .int .i64 a0.left, .int .i64 a0.quiet, .int .i64 a0.ups]] [] = some (.bool r, []) := by
  unfold m14 at h
  rw [evFL_at fn14 (Nat.le_of_ble_eq_true rfl) rfl (.inr rfl)]
  obtain ⟨v14, q12, h⟩ := bnd_some h
  have w13 := e14_1 a0 v14 q12
  simp only [X14_1] at w13
  try simp -implicitDefEqProofs only [go_sem, Nat.reduceLT, Nat.reduceAdd, Nat.reduceSub, Nat.reduceMul, Nat.reduceEqDiff, Nat.reduceBEq, Nat.reduceLeDiff, Int.reduceToNat, Int.reduceLT, Int.reduceLE, Int.reduceEq, reduceCtorEq, ↓reduceIte] at w13
  try simp -implicitDefEqProofs only [go_sem, Nat.reduceLT, Nat.reduceAdd, Nat.reduceSub, Nat.reduceMul, Nat.reduceEqDiff, Nat.reduceBEq, Nat.reduceLeDiff, Int.reduceToNat, Int.reduceLT, Int.reduceLE, Int.reduceEq, reduceCtorEq, ↓reduceIte, i14, c14, w13]
  cases b15 : (v14 : Bool)
  · replace h := br_f b15 h
    obtain ⟨v20, q18, h⟩ := bnd_some h
    have w19 := e14_2 a0 (eqI a0.state 0) v20 q18
    simp only [X14_2] at w19
    try simp -implicitDefEqProofs only [go_sem, Nat.reduceLT, Nat.reduceAdd, Nat.reduceSub, Nat.reduceMul, Nat.reduceEqDiff, Nat.reduceBEq, Nat.reduceLeDiff, Int.reduceToNat, Int.reduceLT, Int.reduceLE, Int.reduceEq, reduceCtorEq, ↓reduceIte] at w19
    try simp -implicitDefEqProofs only [go_sem, Nat.reduceLT, Nat.reduceAdd, Nat.reduceSub, Nat.reduceMul, Nat.reduceEqDiff, Nat.reduceBEq, Nat.reduceLeDiff, Int.reduceToNat, Int.reduceLT, Int.reduceLE, Int.reduceEq, reduceCtorEq, ↓reduceIte, i14, c14, w13, b15, w19]
    cases b21 : (v20 : Bool)
    · replace h := br_f b21 h
      try simp -implicitDefEqProofs only [go_sem, Nat.reduceLT, Nat.reduceAdd, Nat.reduceSub, Nat.reduceMul, Nat.reduceEqDiff, Nat.reduceBEq, Nat.reduceLeDiff, Int.reduceToNat, Int.reduceLT, Int.reduceLE, Int.reduceEq, reduceCtorEq, ↓reduceIte, i14, c14, w13, b15, w19, b21]
      cases b26 : (eqI a0.state 2 : Bool)
      · replace h := br_f b26 h
        obtain ⟨v43, q41, h⟩ := bnd_some h
        have w42 := e14_5 a0 v43 q41
        simp only [X14_5] at w42
        try simp -implicitDefEqProofs only [go_sem, Nat.reduceLT, Nat.reduceAdd, Nat.reduceSub, Nat.reduceMul, Nat.reduceEqDiff, Nat.reduceBEq, Nat.reduceLeDiff, Int.reduceToNat, Int.reduceLT, Int.reduceLE, Int.reduceEq, reduceCtorEq, ↓reduceIte] at w42
        cases h
        simp -implicitDefEqProofs only [go_sem, Nat.reduceLT, Nat.reduceAdd, Nat.reduceSub, Nat.reduceMul, Nat.reduceEqDiff, Nat.reduceBEq, Nat.reduceLeDiff, Int.reduceToNat, Int.reduceLT, Int.reduceLE, Int.reduceEq, reduceCtorEq, ↓reduceIte, i14, c14, w13, b15, w19, b21, b26, w42]
      · replace h := br_t b26 h
        obtain ⟨v33, q31, h⟩ := bnd_some h
        have w32 := e14_4 a0 v33 q31
        simp only [X14_4] at w32
        try simp -implicitDefEqProofs only [go_sem, Nat.reduceLT, Nat.reduceAdd, Nat.reduceSub, Nat.reduceMul, Nat.reduceEqDiff, Nat.reduceBEq, Nat.reduceLeDiff, Int.reduceToNat, Int.reduceLT, Int.reduceLE, Int.reduceEq, reduceCtorEq, ↓reduceIte] at w32
        cases h
        simp -implicitDefEqProofs only [go_sem, Nat.reduceLT, Nat.reduceAdd, Nat.reduceSub, Nat.reduceMul, Nat.reduceEqDiff, Nat.reduceBEq, Nat.reduceLeDiff, Int.reduceToNat, Int.reduceLT, Int.reduceLE, Int.reduceEq, reduceCtorEq, ↓reduceIte, i14, c14, w13, b15, w19, b21, b26, w32]
    · replace h := br_t b21 h
      obtain ⟨v25, q23, h⟩ := bnd_some h
      have w24 := e14_3 a0 v25 q23
      simp only [X14_3] at w24
      try simp -implicitDefEqProofs only [go_sem, Nat.reduceLT, Nat.reduceAdd, Nat.reduceSub, Nat.reduceMul, Nat.reduceEqDiff, Nat.reduceBEq, Nat.reduceLeDiff, Int.reduceToNat, Int.reduceLT, Int.reduceLE, Int.reduceEq, reduceCtorEq, ↓reduceIte] at w24
      cases h
      simp -implicitDefEqProofs only [go_sem, Nat.reduceLT, Nat.reduceAdd, Nat.reduceSub, Nat.reduceMul, Nat.reduceEqDiff, Nat.reduceBEq, Nat.reduceLeDiff, Int.reduceToNat, Int.reduceLT, Int.reduceLE, Int.reduceEq, reduceCtorEq, ↓reduceIte, i14, c14, w13, b15, w19, b21, w24]
  · replace h := br_t b15 h
    cases h
    simp -implicitDefEqProofs only [go_sem, Nat.reduceLT, Nat.reduceAdd, Nat.reduceSub, Nat.reduceMul, Nat.reduceEqDiff, Nat.reduceBEq, Nat.reduceLeDiff, Int.reduceToNat, Int.reduceLT, Int.reduceLE, Int.reduceEq, reduceCtorEq, ↓reduceIte, i14, c14, w13, b15]
-- f41 spec.l12Event
def X41_1 (a0 : Evt) (o : Bool) : Ex × Fr × St :=
  (.normal, frOf 17 (upd anyF 2 (.bool o)), [])
theorem e41_1 (a0 : Evt) (o : Bool) (h : m41_1 a0 = some o) : evCL T 0 k41_1 (frOf 17 (upd anyF 1 (.ptr 0 0 0))) [some ⟨.box, 2, [[.int .i64 a0.kind, .int .i64 a0.n]]⟩] = some (X41_1 a0 o) := by
  unfold m41_1 at h
  obtain ⟨r7, q5, h⟩ := bnd_some h
  have w6 := e39 a0.kind 1 10 r7 q5
  try simp -implicitDefEqProofs only [go_sem, Nat.reduceLT, Nat.reduceAdd, Nat.reduceSub, Nat.reduceMul, Nat.reduceEqDiff, Nat.reduceBEq, Nat.reduceLeDiff, Int.reduceToNat, Int.reduceLT, Int.reduceLE, Int.reduceEq, reduceCtorEq, ↓reduceIte] at w6
  try simp -implicitDefEqProofs only [go_sem, Nat.reduceLT, Nat.reduceAdd, Nat.reduceSub, Nat.reduceMul, Nat.reduceEqDiff, Nat.reduceBEq, Nat.reduceLeDiff, Int.reduceToNat, Int.reduceLT, Int.reduceLE, Int.reduceEq, reduceCtorEq, ↓reduceIte, X41_1, k41_1, w6]
  cases b8 : (r7 : Bool)
  · replace h := br_f b8 h
    cases h
    simp -implicitDefEqProofs only [go_sem, Nat.reduceLT, Nat.reduceAdd, Nat.reduceSub, Nat.reduceMul, Nat.reduceEqDiff, Nat.reduceBEq, Nat.reduceLeDiff, Int.reduceToNat, Int.reduceLT, Int.reduceLE, Int.reduceEq, reduceCtorEq, ↓reduceIte, X41_1, k41_1, w6, b8]
  · replace h := br_t b8 h
    cases h
    simp -implicitDefEqProofs only [go_sem, Nat.reduceLT, Nat.reduceAdd, Nat.reduceSub, Nat.reduceMul, Nat.reduceEqDiff, Nat.reduceBEq, Nat.reduceLeDiff, Int.reduceToNat, Int.reduceLT, Int.reduceLE, Int.reduceEq, reduceCtorEq, ↓reduceIte, X41_1, k41_1, w6, b8]
theorem call41 (args : List AV) (S : St) : evCall T (evFL T) 41 args S = lendC (evFL T 41) S (lendAll S [[0, 0]] args) := evCall0 fn41 rfl rfl args S
theorem callz41 (args : List AV) (S : St) : evCallFz T (evFL T) 41 args S = lendZ (evFL T 41) S [[0]] (lendAll S [[0, 0]] args) := evCallFz0 fn41 rfl rfl args S
attribute [go_sem] call41 callz41
theorem e41 (a0 : Evt) (r : Bool) (h : m41 a0 = some r) : evFL T 41 [.agg [.int .i64 a0.kind, .int .i64 a0.n]] [] = some (.bool r, []) := by
  unfold m41 at h
  rw [evFL_at fn41 (Nat.le_of_ble_eq_true rfl) rfl (.inr rfl)]
  try simp -implicitDefEqProofs only [go_sem, Nat.reduceLT, Nat.reduceAdd, Nat.reduceSub, Nat.reduceMul, Nat.reduceEqDiff, Nat.reduceBEq, Nat.reduceLeDiff, Int.reduceToNat, Int.reduceLT, Int.reduceLE, Int.reduceEq, reduceCtorEq, ↓reduceIte, i41, c41]
  cases b1 : (eqI a0.kind 5 : Bool)
  · replace h := br_f b1 h
    obtain ⟨v11, q9, h⟩ := bnd_some h
    have w10 := e41_1 a0 v11 q9
    simp only [X41_1] at w10
    try simp -implicitDefEqProofs only [go_sem, Nat.reduceLT, Nat.reduceAdd, Nat.reduceSub, Nat.reduceMul, Nat.reduceEqDiff, Nat.reduceBEq, Nat.reduceLeDiff, Int.reduceToNat, Int.reduceLT, Int.reduceLE, Int.reduceEq, reduceCtorEq, ↓reduceIte] at w10
    cases h
    simp -implicitDefEqProofs only [go_sem, Nat.reduceLT, Nat.reduceAdd, Nat.reduceSub, Nat.reduceMul, Nat.reduceEqDiff, Nat.reduceBEq, Nat.reduceLeDiff, Int.reduceToNat, Int.reduceLT, Int.reduceLE, Int.reduceEq, reduceCtorEq, ↓reduceIte, i41, c41, b1, w10]
  · replace h := br_t b1 h
    obtain ⟨r4, q2, h⟩ := bnd_some h
    have w3 := e39 a0.n 0 100 r4 q2
    try simp -implicitDefEqProofs only [go_sem, Nat.reduceLT, Nat.reduceAdd, Nat.reduceSub, Nat.reduceMul, Nat.reduceEqDiff, Nat.reduceBEq, Nat.reduceLeDiff, Int.reduceToNat, Int.reduceLT, Int.reduceLE, Int.reduceEq, reduceCtorEq, ↓reduceIte] at w3
    cases h
    simp -implicitDefEqProofs only [go_sem, Nat.reduceLT, Nat.reduceAdd, Nat.reduceSub, Nat.reduceMul, Nat.reduceEqDiff, Nat.reduceBEq, Nat.reduceLeDiff, Int.reduceToNat, Int.reduceLT, Int.reduceLE, Int.reduceEq, reduceCtorEq, ↓reduceIte, i41, c41, b1, w3]
-- f60 spec.l12To
theorem call60 (args : List AV) (S : St) : evCall T (evFL T) 60 args S = lendC (evFL T 60) S (lendAll S [[0, 0, 0, 0, 0], [0]] args) := evCall0 fn60 rfl rfl args S
theorem callz60 (args : List AV) (S : St) : evCallFz T (evFL T) 60 args S = lendZ (evFL T 60) S [[0, 0, 0, 0, 0]] (lendAll S [[0, 0, 0, 0, 0], [0]] args) := evCallFz0 fn60 rfl rfl args S
attribute [go_sem] call60 callz60
theorem e60 (a0 : Session) (a1 : Int) (r : Session) (h : m60 a0 a1 = some r) : evFL T 60 [.agg [.int .i64 a0.state, .int .i64 a0.hold, .int .i64 a0.left, .int .i64 a0.quiet, .int .i64 a0.ups], .int .i64 a1] [] = some (.agg [.int .i64 r.state, .int .i64 r.hold, .int .i64 r.left, .int .i64 r.quiet, .int .i64 r.ups], []) := by
  unfold m60 at h
  rw [evFL_at fn60 (Nat.le_of_ble_eq_true rfl) rfl (.inr rfl)]
  cases h
  simp -implicitDefEqProofs only [go_sem, Nat.reduceLT, Nat.reduceAdd, Nat.reduceSub, Nat.reduceMul, Nat.reduceEqDiff, Nat.reduceBEq, Nat.reduceLeDiff, Int.reduceToNat, Int.reduceLT, Int.reduceLE, Int.reduceEq, reduceCtorEq, ↓reduceIte, i60, c60]
-- f49 spec.l12Tick
theorem call49 (args : List AV) (S : St) : evCall T (evFL T) 49 args S = lendC (evFL T 49) S (lendAll S [[0, 0, 0, 0, 0]] args) := evCall0 fn49 rfl rfl args S
theorem callz49 (args : List AV) (S : St) : evCallFz T (evFL T) 49 args S = lendZ (evFL T 49) S [[0, 0, 0, 0, 0], [1]] (lendAll S [[0, 0, 0, 0, 0]] args) := evCallFz0 fn49 rfl rfl args S
attribute [go_sem] call49 callz49
theorem e49 (a0 : Session) (r : (Session × (List Int))) (h : m49 a0 = some r) : evFL T 49 [.agg [.int .i64 a0.state, .int .i64 a0.hold, .int .i64 a0.left, .int .i64 a0.quiet, .int .i64 a0.ups]] [] = some (.tup [.agg [.int .i64 r.1.state, .int .i64 r.1.hold, .int .i64 r.1.left, .int .i64 r.1.quiet, .int .i64 r.1.ups], .sl 0 0 r.2.length], [some ⟨.arr, 1, r.2.map encInt⟩]) := by
  unfold m49 at h
  rw [evFL_at fn49 (Nat.le_of_ble_eq_true rfl) rfl (.inr rfl)]
  try simp -implicitDefEqProofs only [go_sem, Nat.reduceLT, Nat.reduceAdd, Nat.reduceSub, Nat.reduceMul, Nat.reduceEqDiff, Nat.reduceBEq, Nat.reduceLeDiff, Int.reduceToNat, Int.reduceLT, Int.reduceLE, Int.reduceEq, reduceCtorEq, ↓reduceIte, i49, c49]
  cases b1 : (ltI a0.state 2 : Bool)
  · replace h := br_f b1 h
    try simp -implicitDefEqProofs only [go_sem, Nat.reduceLT, Nat.reduceAdd, Nat.reduceSub, Nat.reduceMul, Nat.reduceEqDiff, Nat.reduceBEq, Nat.reduceLeDiff, Int.reduceToNat, Int.reduceLT, Int.reduceLE, Int.reduceEq, reduceCtorEq, ↓reduceIte, i49, c49, b1]
    cases b2 : (eqI (wsub .i64 a0.left 1) 0 : Bool)
    · replace h := br_f b2 h
      try simp -implicitDefEqProofs only [go_sem, Nat.reduceLT, Nat.reduceAdd, Nat.reduceSub, Nat.reduceMul, Nat.reduceEqDiff, Nat.reduceBEq, Nat.reduceLeDiff, Int.reduceToNat, Int.reduceLT, Int.reduceLE, Int.reduceEq, reduceCtorEq, ↓reduceIte, i49, c49, b1, b2]
      cases b6 : (eqI a0.state 2 : Bool)
      · replace h := br_f b6 h
        try simp -implicitDefEqProofs only [go_sem, Nat.reduceLT, Nat.reduceAdd, Nat.reduceSub, Nat.reduceMul, Nat.reduceEqDiff, Nat.reduceBEq, Nat.reduceLeDiff, Int.reduceToNat, Int.reduceLT, Int.reduceLE, Int.reduceEq, reduceCtorEq, ↓reduceIte, i49, c49, b1, b2, b6]
        cases b7 : (eqI (wsub .i64 a0.quiet 1) 0 : Bool)
        · replace h := br_f b7 h
          cases h
          simp -implicitDefEqProofs only [go_sem, Nat.reduceLT, Nat.reduceAdd, Nat.reduceSub, Nat.reduceMul, Nat.reduceEqDiff, Nat.reduceBEq, Nat.reduceLeDiff, Int.reduceToNat, Int.reduceLT, Int.reduceLE, Int.reduceEq, reduceCtorEq, ↓reduceIte, i49, c49, b1, b2, b6, b7]
        · replace h := br_t b7 h
          cases h
          simp -implicitDefEqProofs only [go_sem, Nat.reduceLT, Nat.reduceAdd, Nat.reduceSub, Nat.reduceMul, Nat.reduceEqDiff, Nat.reduceBEq, Nat.reduceLeDiff, Int.reduceToNat, Int.reduceLT, Int.reduceLE, Int.reduceEq, reduceCtorEq, ↓reduceIte, i49, c49, b1, b2, b6, b7]
      · replace h := br_t b6 h
        cases h
        simp -implicitDefEqProofs only [go_sem, Nat.reduceLT, Nat.reduceAdd, Nat.reduceSub, Nat.reduceMul, Nat.reduceEqDiff, Nat.reduceBEq, Nat.reduceLeDiff, Int.reduceToNat, Int.reduceLT, Int.reduceLE, Int.reduceEq, reduceCtorEq, ↓reduceIte, i49, c49, b1, b2, b6]
    · replace h := br_t b2 h
      obtain ⟨r5, q3, h⟩ := bnd_some h
      have w4 := e60 (⟨a0.state, a0.hold, wsub .i64 a0.left 1, a0.quiet, a0.ups⟩ : Session) 0 r5 q3
      try simp -implicitDefEqProofs only [go_sem, Nat.reduceLT, Nat.reduceAdd, Nat.reduceSub, Nat.reduceMul, Nat.reduceEqDiff, Nat.reduceBEq, Nat.reduceLeDiff, Int.reduceToNat, Int.reduceLT, Int.reduceLE, Int.reduceEq, reduceCtorEq, ↓reduceIte] at w4
      cases h
      simp -implicitDefEqProofs only [go_sem, Nat.reduceLT, Nat.reduceAdd, Nat.reduceSub, Nat.reduceMul, Nat.reduceEqDiff, Nat.reduceBEq, Nat.reduceLeDiff, Int.reduceToNat, Int.reduceLT, Int.reduceLE, Int.reduceEq, reduceCtorEq, ↓reduceIte, i49, c49, b1, b2, w4]
  · replace h := br_t b1 h
    cases h
    simp -implicitDefEqProofs only [go_sem, Nat.reduceLT, Nat.reduceAdd, Nat.reduceSub, Nat.reduceMul, Nat.reduceEqDiff, Nat.reduceBEq, Nat.reduceLeDiff, Int.reduceToNat, Int.reduceLT, Int.reduceLE, Int.reduceEq, reduceCtorEq, ↓reduceIte, i49, c49, b1]
-- f42 spec.l12Step
def X42_1 (p6 : Bool) (a0 : Session) (a1 : Evt) (o : Bool) : Ex × Fr × St :=
  (.normal, frOf 144 (upd (upd (upd (upd (upd anyF 2 (.ptr 0 0 0)) 3 (.ptr 1 0 0)) 4 (.ptr 2 0 0)) 6 (.bool p6)) 18 (.bool o)), [some ⟨.box, 5, [[.int .i64 a0.state, .int .i64 a0.hold, .int .i64 a0.left, .int .i64 a0.quiet, .int .i64 a0.ups]]⟩, some ⟨.box, 2, [[.int .i64 a1.kind, .int .i64 a1.n]]⟩, some ⟨.box, 5, [[.int .i64 0, .int .i64 0, .int .i64 0, .int .i64 0, .int .i64 0]]⟩])
theorem e42_1 (p6 : Bool) (a0 : Session) (a1 : Evt) (o : Bool) (h : m42_1 a0 a1 = some o) : evCL T 0 k42_1 (frOf 144 (upd (upd (upd (upd anyF 2 (.ptr 0 0 0)) 3 (.ptr 1 0 0)) 4 (.ptr 2 0 0)) 6 (.bool p6))) [some ⟨.box, 5, [[.int .i64 a0.state, .int .i64 a0.hold, .int .i64 a0.left, .int .i64 a0.quiet, .int .i64 a0.ups]]⟩, some ⟨.box, 2, [[.int .i64 a1.kind, .int .i64 a1.n]]⟩, some ⟨.box, 5, [[.int .i64 0, .int .i64 0, .int .i64 0, .int .i64 0, .int .i64 0]]⟩] = some (X42_1 p6 a0 a1 o) := by
  unfold m42_1 at h
  try simp -implicitDefEqProofs only [go_sem, Nat.reduceLT, Nat.reduceAdd, Nat.reduceSub, Nat.reduceMul, Nat.reduceEqDiff, Nat.reduceBEq, Nat.reduceLeDiff, Int.reduceToNat, Int.reduceLT, Int.reduceLE, Int.reduceEq, reduceCtorEq, ↓reduceIte, X42_1, k42_1]
  cases b7 : (eqI a1.kind 1 : Bool)
  · replace h := br_f b7 h
    cases h
    simp -implicitDefEqProofs only [go_sem, Nat.reduceLT, Nat.reduceAdd, Nat.reduceSub, Nat.reduceMul, Nat.reduceEqDiff, Nat.reduceBEq, Nat.reduceLeDiff, Int.reduceToNat, Int.reduceLT, Int.reduceLE, Int.reduceEq, reduceCtorEq, ↓reduceIte, X42_1, k42_1, b7]
  · replace h := br_t b7 h
    cases h
    simp -implicitDefEqProofs only [go_sem, Nat.reduceLT, Nat.reduceAdd, Nat.reduceSub, Nat.reduceMul, Nat.reduceEqDiff, Nat.reduceBEq, Nat.reduceLeDiff, Int.reduceToNat, Int.reduceLT, Int.reduceLE, Int.reduceEq, reduceCtorEq, ↓reduceIte, X42_1, k42_1, b7]
def X42_2 (p15 : Bool) (a0 : Session) (a1 : Evt) (o : Bool) : Ex × Fr × St :=
  (.normal, frOf 144 (upd (upd (upd (upd (upd anyF 2 (.ptr 0 0 0)) 3 (.ptr 1 0 0)) 4 (.ptr 2 0 0)) 6 (.bool p15)) 29 (.bool o)), [some ⟨.box, 5, [[.int .i64 a0.state, .int .i64 a0.hold, .int .i64 a0.left, .int .i64 a0.quiet, .int .i64 a0.ups]]⟩, some ⟨.box, 2, [[.int .i64 a1.kind, .int .i64 a1.n]]⟩, some ⟨.box, 5, [[.int .i64 0, .int .i64 0, .int .i64 0, .int .i64 0, .int .i64 0]]⟩])
theorem e42_2 (p15 : Bool) (a0 : Session) (a1 : Evt) (o : Bool) (h : m42_2 a0 a1 = some o) : evCL T 0 k42_2 (frOf 144 (upd (upd (upd (upd anyF 2 (.ptr 0 0 0)) 3 (.ptr 1 0 0)) 4 (.ptr 2 0 0)) 6 (.bool p15))) [some ⟨.box, 5, [[.int .i64 a0.state, .int .i64 a0.hold, .int .i64 a0.left, .int .i64 a0.quiet, .int .i64 a0.ups]]⟩, some ⟨.box, 2, [[.int .i64 a1.kind, .int .i64 a1.n]]⟩, some ⟨.box, 5, [[.int .i64 0, .int .i64 0, .int .i64 0, .int .i64 0, .int .i64 0]]⟩] = some (X42_2 p15 a0 a1 o) := by
  unfold m42_2 at h
  try simp -implicitDefEqProofs only [go_sem, Nat.reduceLT, Nat.reduceAdd, Nat.reduceSub, Nat.reduceMul, Nat.reduceEqDiff, Nat.reduceBEq, Nat.reduceLeDiff, Int.reduceToNat, Int.reduceLT, Int.reduceLE, Int.reduceEq, reduceCtorEq, ↓reduceIte, X42_2, k42_2]
  cases b16 : (eqI a1.kind 3 : Bool)
  · replace h := br_f b16 h
    cases h
    simp -implicitDefEqProofs only [go_sem, Nat.reduceLT, Nat.reduceAdd, Nat.reduceSub, Nat.reduceMul, Nat.reduceEqDiff, Nat.reduceBEq, Nat.reduceLeDiff, Int.reduceToNat, Int.reduceLT, Int.reduceLE, Int.reduceEq, reduceCtorEq, ↓reduceIte, X42_2, k42_2, b16]
  · replace h := br_t b16 h
    cases h
    simp -implicitDefEqProofs only [go_sem, Nat.reduceLT, Nat.reduceAdd, Nat.reduceSub, Nat.reduceMul, Nat.reduceEqDiff, Nat.reduceBEq, Nat.reduceLeDiff, Int.reduceToNat, Int.reduceLT, Int.reduceLE, Int.reduceEq, reduceCtorEq, ↓reduceIte, X42_2, k42_2, b16]
def X42_3 (p24 : Bool) (a0 : Session) (a1 : Evt) (o : Bool) : Ex × Fr × St :=
  (.normal, frOf 144 (upd (upd (upd (upd (upd anyF 2 (.ptr 0 0 0)) 3 (.ptr 1 0 0)) 4 (.ptr 2 0 0)) 6 (.bool p24)) 43 (.bool o)), [some ⟨.box, 5, [[.int .i64 a0.state, .int .i64 a0.hold, .int .i64 a0.left, .int .i64 a0.quiet, .int .i64 a0.ups]]⟩, some ⟨.box, 2, [[.int .i64 a1.kind, .int .i64 a1.n]]⟩, some ⟨.box, 5, [[.int .i64 0, .int .i64 0, .int .i64 0, .int .i64 0, .int .i64 0]]⟩])
theorem e42_3 (p24 : Bool) (a0 : Session) (a1 : Evt) (o : Bool) (h : m42_3 p24 a1 = some o) : evCL T 0 k42_3 (frOf 144 (upd (upd (upd (upd anyF 2 (.ptr 0 0 0)) 3 (.ptr 1 0 0)) 4 (.ptr 2 0 0)) 6 (.bool p24))) [some ⟨.box, 5, [[.int .i64 a0.state, .int .i64 a0.hold, .int .i64 a0.left, .int .i64 a0.quiet, .int .i64 a0.ups]]⟩, some ⟨.box, 2, [[.int .i64 a1.kind, .int .i64 a1.n]]⟩, some ⟨.box, 5, [[.int .i64 0, .int .i64 0, .int .i64 0, .int .i64 0, .int .i64 0]]⟩] = some (X42_3 p24 a0 a1 o) := by
  unfold m42_3 at h
  try simp -implicitDefEqProofs only [go_sem, Nat.reduceLT, Nat.reduceAdd, Nat.reduceSub, Nat.reduceMul, Nat.reduceEqDiff, Nat.reduceBEq, Nat.reduceLeDiff, Int.reduceToNat, Int.reduceLT, Int.reduceLE, Int.reduceEq, reduceCtorEq, ↓reduceIte, X42_3, k42_3]
  cases b25 : (eqI a1.kind 4 : Bool)
  · replace h := br_f b25 h
    cases h
    simp -implicitDefEqProofs only [go_sem, Nat.reduceLT, Nat.reduceAdd, Nat.reduceSub, Nat.reduceMul, Nat.reduceEqDiff, Nat.reduceBEq, Nat.reduceLeDiff, Int.reduceToNat, Int.reduceLT, Int.reduceLE, Int.reduceEq, reduceCtorEq, ↓reduceIte, X42_3, k42_3, b25]
  · replace h := br_t b25 h
    cases h
    simp -implicitDefEqProofs only [go_sem, Nat.reduceLT, Nat.reduceAdd, Nat.reduceSub, Nat.reduceMul, Nat.reduceEqDiff, Nat.reduceBEq, Nat.reduceLeDiff, Int.reduceToNat, Int.reduceLT, Int.reduceLE, Int.reduceEq, reduceCtorEq, ↓reduceIte, X42_3, k42_3, b25]
def X42_4 (p33 : Bool) (a0 : Session) (a1 : Evt) (o : Bool) : Ex × Fr × St :=
  (.normal, frOf 144 (upd (upd (upd (upd (upd anyF 2 (.ptr 0 0 0)) 3 (.ptr 1 0 0)) 4 (.ptr 2 0 0)) 6 (.bool p33)) 52 (.bool o)), [some ⟨.box, 5, [[.int .i64 a0.state, .int .i64 a0.hold, .int .i64 a0.left, .int .i64 a0.quiet, .int .i64 a0.ups]]⟩, some ⟨.box, 2, [[.int .i64 a1.kind, .int .i64 a1.n]]⟩, some ⟨.box, 5, [[.int .i64 0, .int .i64 0, .int .i64 0, .int .i64 0, .int .i64 0]]⟩])
theorem e42_4 (p33 : Bool) (a0 : Session) (a1 : Evt) (o : Bool) (h : m42_4 p33 a1 = some o) : evCL T 0 k42_4 (frOf 144 (upd (upd (upd (upd anyF 2 (.ptr 0 0 0)) 3 (.ptr 1 0 0)) 4 (.ptr 2 0 0)) 6 (.bool p33))) [some ⟨.box, 5, [[.int .i64 a0.state, .int .i64 a0.hold, .int .i64 a0.left, .int .i64 a0.quiet, .int .i64 a0.ups]]⟩, some ⟨.box, 2, [[.int .i64 a1.kind, .int .i64 a1.n]]⟩, some ⟨.box, 5, [[.int .i64 0, .int .i64 0, .int .i64 0, .int .i64 0, .int .i64 0]]⟩] = some (X42_4 p33 a0 a1 o) := by
  unfold m42_4 at h
  try simp -implicitDefEqProofs only [go_sem, Nat.reduceLT, Nat.reduceAdd, Nat.reduceSub, Nat.reduceMul, Nat.reduceEqDiff, Nat.reduceBEq, Nat.reduceLeDiff, Int.reduceToNat, Int.reduceLT, Int.reduceLE, Int.reduceEq, reduceCtorEq, ↓reduceIte, X42_4, k42_4]
  cases b34 : (eqI a1.kind 9 : Bool)
  · replace h := br_f b34 h
    cases h
    simp -implicitDefEqProofs only [go_sem, Nat.reduceLT, Nat.reduceAdd, Nat.reduceSub, Nat.reduceMul, Nat.reduceEqDiff, Nat.reduceBEq, Nat.reduceLeDiff, Int.reduceToNat, Int.reduceLT, Int.reduceLE, Int.reduceEq, reduceCtorEq, ↓reduceIte, X42_4, k42_4, b34]
  · replace h := br_t b34 h
    cases h
    simp -implicitDefEqProofs only [go_sem, Nat.reduceLT, Nat.reduceAdd, Nat.reduceSub, Nat.reduceMul, Nat.reduceEqDiff, Nat.reduceBEq, Nat.reduceLeDiff, Int.reduceToNat, Int.reduceLT, Int.reduceLE, Int.reduceEq, reduceCtorEq, ↓reduceIte, X42_4, k42_4, b34]
def X42_5 (p42 : Bool) (a0 : Session) (a1 : Evt) (o : Bool) : Ex × Fr × St :=
  (.normal, frOf 144 (upd (upd (upd (upd (upd anyF 2 (.ptr 0 0 0)) 3 (.ptr 1 0 0)) 4 (.ptr 2 0 0)) 6 (.bool p42)) 61 (.bool o)), [some ⟨.box, 5, [[.int .i64 a0.state, .int .i64 a0.hold, .int .i64 a0.left, .int .i64 a0.quiet, .int .i64 a0.ups]]⟩, some ⟨.box, 2, [[.int .i64 a1.kind, .int .i64 a1.n]]⟩, some ⟨.box, 5, [[.int .i64 0, .int .i64 0, .int .i64 0, .int .i64 0, .int .i64 0]]⟩])
theorem e42_5 (p42 : Bool) (a0 : Session) (a1 : Evt) (o : Bool) (h : m42_5 p42 a1 = some o) : evCL T 0 k42_5 (frOf 144 (upd (upd (upd (upd anyF 2 (.ptr 0 0 0)) 3 (.ptr 1 0 0)) 4 (.ptr 2 0 0)) 6 (.bool p42))) [some ⟨.box, 5, [[.int .i64 a0.state, .int .i64 a0.hold, .int .i64 a0.left, .int .i64 a0.quiet, .int .i64 a0.ups]]⟩, some ⟨.box, 2, [[.int .i64 a1.kind, .int .i64 a1.n]]⟩, some ⟨.box, 5, [[.int .i64 0, .int .i64 0, .int .i64 0, .int .i64 0, .int .i64 0]]⟩] = some (X42_5 p42 a0 a1 o) := by
  unfold m42_5 at h
  try simp -implicitDefEqProofs only [go_sem, Nat.reduceLT, Nat.reduceAdd, Nat.reduceSub, Nat.reduceMul, Nat.reduceEqDiff, Nat.reduceBEq, Nat.reduceLeDiff, Int.reduceToNat, Int.reduceLT, Int.reduceLE, Int.reduceEq, reduceCtorEq, ↓reduceIte, X42_5, k42_5]
  cases b43 : (eqI a1.kind 2 : Bool)
  · replace h := br_f b43 h
    cases h
    simp -implicitDefEqProofs only [go_sem, Nat.reduceLT, Nat.reduceAdd, Nat.reduceSub, Nat.reduceMul, Nat.reduceEqDiff, Nat.reduceBEq, Nat.reduceLeDiff, Int.reduceToNat, Int.reduceLT, Int.reduceLE, Int.reduceEq, reduceCtorEq, ↓reduceIte, X42_5, k42_5, b43]
  · replace h := br_t b43 h
    cases h
    simp -implicitDefEqProofs only [go_sem, Nat.reduceLT, Nat.reduceAdd, Nat.reduceSub, Nat.reduceMul, Nat.reduceEqDiff, Nat.reduceBEq, Nat.reduceLeDiff, Int.reduceToNat, Int.reduceLT, Int.reduceLE, Int.reduceEq, reduceCtorEq, ↓reduceIte, X42_5, k42_5, b43]
def X42_6 (a0 : Session) (a1 : Evt) (o : Bool) : Ex × Fr × St :=
  (.normal, frOf 144 (upd (upd (upd (upd anyF 2 (.ptr 0 0 0)) 3 (.ptr 1 0 0)) 4 (.ptr 2 0 0)) 75 (.bool o)), [some ⟨.box, 5, [[.int .i64 a0.state, .int .i64 a0.hold, .int .i64 a0.left, .int .i64 a0.quiet, .int .i64 a0.ups]]⟩, some ⟨.box, 2, [[.int .i64 a1.kind, .int .i64 a1.n]]⟩, some ⟨.box, 5, [[.int .i64 0, .int .i64 0, .int .i64 0, .int .i64 0, .int .i64 0]]⟩])
theorem e42_6 (a0 : Session) (a1 : Evt) (o : Bool) (h : m42_6 a0 a1 = some o) : evCL T 0 k42_6 (frOf 144 (upd (upd (upd anyF 2 (.ptr 0 0 0)) 3 (.ptr 1 0 0)) 4 (.ptr 2 0 0))) [some ⟨.box, 5, [[.int .i64 a0.state, .int .i64 a0.hold, .int .i64 a0.left, .int .i64 a0.quiet, .int .i64 a0.ups]]⟩, some ⟨.box, 2, [[.int .i64 a1.kind, .int .i64 a1.n]]⟩, some ⟨.box, 5, [[.int .i64 0, .int .i64 0, .int .i64 0, .int .i64 0, .int .i64 0]]⟩] = some (X42_6 a0 a1 o) := by
  unfold m42_6 at h
  try simp -implicitDefEqProofs only [go_sem, Nat.reduceLT, Nat.reduceAdd, Nat.reduceSub, Nat.reduceMul, Nat.reduceEqDiff, Nat.reduceBEq, Nat.reduceLeDiff, Int.reduceToNat, Int.reduceLT, Int.reduceLE, Int.reduceEq, reduceCtorEq, ↓reduceIte, X42_6, k42_6]
  cases b52 : (eqI a1.kind 5 : Bool)
  · replace h := br_f b52 h
    cases h
    simp -implicitDefEqProofs only [go_sem, Nat.reduceLT, Nat.reduceAdd, Nat.reduceSub, Nat.reduceMul, Nat.reduceEqDiff, Nat.reduceBEq, Nat.reduceLeDiff, Int.reduceToNat, Int.reduceLT, Int.reduceLE, Int.reduceEq, reduceCtorEq, ↓reduceIte, X42_6, k42_6, b52]
  · replace h := br_t b52 h
    try simp -implicitDefEqProofs only [go_sem, Nat.reduceLT, Nat.reduceAdd, Nat.reduceSub, Nat.reduceMul, Nat.reduceEqDiff, Nat.reduceBEq, Nat.reduceLeDiff, Int.reduceToNat, Int.reduceLT, Int.reduceLE, Int.reduceEq, reduceCtorEq, ↓reduceIte, X42_6, k42_6, b52]
    cases b53 : (eqI a0.state 2 : Bool)
    · replace h := br_f b53 h
      cases h
      simp -implicitDefEqProofs only [go_sem, Nat.reduceLT, Nat.reduceAdd, Nat.reduceSub, Nat.reduceMul, Nat.reduceEqDiff, Nat.reduceBEq, Nat.reduceLeDiff, Int.reduceToNat, Int.reduceLT, Int.reduceLE, Int.reduceEq, reduceCtorEq, ↓reduceIte, X42_6, k42_6, b52, b53]
    · replace h := br_t b53 h
      cases h
      simp -implicitDefEqProofs only [go_sem, Nat.reduceLT, Nat.reduceAdd, Nat.reduceSub, Nat.reduceMul, Nat.reduceEqDiff, Nat.reduceBEq, Nat.reduceLeDiff, Int.reduceToNat, Int.reduceLT, Int.reduceLE, Int.reduceEq, reduceCtorEq, ↓reduceIte, X42_6, k42_6, b52, b53]
def X42_7 (p58 : Bool) (a0 : Session) (a1 : Evt) (o : Int) : Ex × Fr × St :=
  (.normal, frOf 144 (upd (upd anyF 2 (.ptr 0 0 0)) 4 (.ptr 1 0 0)), [some ⟨.box, 5, [[.int .i64 3, .int .i64 o, .int .i64 a0.left, .int .i64 a0.quiet, .int .i64 a0.ups]]⟩, some ⟨.box, 5, [[.int .i64 0, .int .i64 0, .int .i64 0, .int .i64 0, .int .i64 0]]⟩])
theorem e42_7 (p58 : Bool) (a0 : Session) (a1 : Evt) (o : Int) (h : m42_7 p58 a0 a1 = some o) : evCL T 0 k42_7 (frOf 144 (upd (upd (upd (upd anyF 2 (.ptr 0 0 0)) 3 (.ptr 1 0 0)) 4 (.ptr 2 0 0)) 94 (.bool p58))) [some ⟨.box, 5, [[.int .i64 3, .int .i64 a0.hold, .int .i64 a0.left, .int .i64 a0.quiet, .int .i64 a0.ups]]⟩, some ⟨.box, 2, [[.int .i64 a1.kind, .int .i64 a1.n]]⟩, some ⟨.box, 5, [[.int .i64 0, .int .i64 0, .int .i64 0, .int .i64 0, .int .i64 0]]⟩] = some (X42_7 p58 a0 a1 o) := by
  unfold m42_7 at h
  try simp -implicitDefEqProofs only [go_sem, Nat.reduceLT, Nat.reduceAdd, Nat.reduceSub, Nat.reduceMul, Nat.reduceEqDiff, Nat.reduceBEq, Nat.reduceLeDiff, Int.reduceToNat, Int.reduceLT, Int.reduceLE, Int.reduceEq, reduceCtorEq, ↓reduceIte, X42_7, k42_7]
  cases b59 : (p58 : Bool)
  · replace h := br_f b59 h
    cases h
    simp -implicitDefEqProofs only [go_sem, Nat.reduceLT, Nat.reduceAdd, Nat.reduceSub, Nat.reduceMul, Nat.reduceEqDiff, Nat.reduceBEq, Nat.reduceLeDiff, Int.reduceToNat, Int.reduceLT, Int.reduceLE, Int.reduceEq, reduceCtorEq, ↓reduceIte, X42_7, k42_7, b59]
  · replace h := br_t b59 h
    cases h
    simp -implicitDefEqProofs only [go_sem, Nat.reduceLT, Nat.reduceAdd, Nat.reduceSub, Nat.reduceMul, Nat.reduceEqDiff, Nat.reduceBEq, Nat.reduceLeDiff, Int.reduceToNat, Int.reduceLT, Int.reduceLE, Int.reduceEq, reduceCtorEq, ↓reduceIte, X42_7, k42_7, b59]
def X42_8 (a0 : Session) (a1 : Evt) (o : Bool) : Ex × Fr × St :=
  (.normal, frOf 144 (upd (upd (upd (upd anyF 2 (.ptr 0 0 0)) 3 (.ptr 1 0 0)) 4 (.ptr 2 0 0)) 107 (.bool o)), [some ⟨.box, 5, [[.int .i64 a0.state, .int .i64 a0.hold, .int .i64 a0.left, .int .i64 a0.quiet, .int .i64 a0.ups]]⟩, some ⟨.box, 2, [[.int .i64 a1.kind, .int .i64 a1.n]]⟩, some ⟨.box, 5, [[.int .i64 0, .int .i64 0, .int .i64 0, .int .i64 0, .int .i64 0]]⟩])
theorem e42_8 (a0 : Session) (a1 : Evt) (o : Bool) (h : m42_8 a0 a1 = some o) : evCL T 0 k42_8 (frOf 144 (upd (upd (upd anyF 2 (.ptr 0 0 0)) 3 (.ptr 1 0 0)) 4 (.ptr 2 0 0))) [some ⟨.box, 5, [[.int .i64 a0.state, .int .i64 a0.hold, .int .i64 a0.left, .int .i64 a0.quiet, .int .i64 a0.ups]]⟩, some ⟨.box, 2, [[.int .i64 a1.kind, .int .i64 a1.n]]⟩, some ⟨.box, 5, [[.int .i64 0, .int .i64 0, .int .i64 0, .int .i64 0, .int .i64 0]]⟩] = some (X42_8 a0 a1 o) := by
  unfold m42_8 at h
  try simp -implicitDefEqProofs only [go_sem, Nat.reduceLT, Nat.reduceAdd, Nat.reduceSub, Nat.reduceMul, Nat.reduceEqDiff, Nat.reduceBEq, Nat.reduceLeDiff, Int.reduceToNat, Int.reduceLT, Int.reduceLE, Int.reduceEq, reduceCtorEq, ↓reduceIte, X42_8, k42_8]
  cases b63 : (eqI a1.kind 7 : Bool)
  · replace h := br_f b63 h
    cases h
    simp -implicitDefEqProofs only [go_sem, Nat.reduceLT, Nat.reduceAdd, Nat.reduceSub, Nat.reduceMul, Nat.reduceEqDiff, Nat.reduceBEq, Nat.reduceLeDiff, Int.reduceToNat, Int.reduceLT, Int.reduceLE, Int.reduceEq, reduceCtorEq, ↓reduceIte, X42_8, k42_8, b63]
  · replace h := br_t b63 h
    cases h
    simp -implicitDefEqProofs only [go_sem, Nat.reduceLT, Nat.reduceAdd, Nat.reduceSub, Nat.reduceMul, Nat.reduceEqDiff, Nat.reduceBEq, Nat.reduceLeDiff, Int.reduceToNat, Int.reduceLT, Int.reduceLE, Int.reduceEq, reduceCtorEq, ↓reduceIte, X42_8, k42_8, b63]
def X42_10 (a0 : Session) (a1 : Evt) (o : Bool) : Ex × Fr × St :=
  (.normal, frOf 144 (upd (upd (upd anyF 2 (.ptr 0 0 0)) 4 (.ptr 1 0 0)) 107 (.bool o)), [some ⟨.box, 5, [[.int .i64 a0.state, .int .i64 a0.hold, .int .i64 a0.left, .int .i64 a0.quiet, .int .i64 a0.ups]]⟩, some ⟨.box, 5, [[.int .i64 0, .int .i64 0, .int .i64 0, .int .i64 0, .int .i64 0]]⟩])
theorem e42_10 (a0 : Session) (a1 : Evt) (o : Bool) (h : m42_10 a0 a1 = some o) : evCL T 0 k42_10 (frOf 144 (upd (upd (upd anyF 2 (.ptr 0 0 0)) 3 (.ptr 1 0 0)) 4 (.ptr 2 0 0))) [some ⟨.box, 5, [[.int .i64 a0.state, .int .i64 a0.hold, .int .i64 a0.left, .int .i64 a0.quiet, .int .i64 a0.ups]]⟩, some ⟨.box, 2, [[.int .i64 a1.kind, .int .i64 a1.n]]⟩, some ⟨.box, 5, [[.int .i64 0, .int .i64 0, .int .i64 0, .int .i64 0, .int .i64 0]]⟩] = some (X42_10 a0 a1 o) := by
  unfold m42_10 at h
  try simp -implicitDefEqProofs only [go_sem, Nat.reduceLT, Nat.reduceAdd, Nat.reduceSub, Nat.reduceMul, Nat.reduceEqDiff, Nat.reduceBEq, Nat.reduceLeDiff, Int.reduceToNat, Int.reduceLT, Int.reduceLE, Int.reduceEq, reduceCtorEq, ↓reduceIte, X42_10, k42_10]
  cases b68 : (eqI a1.kind 8 : Bool)
  · replace h := br_f b68 h
    cases h
    simp -implicitDefEqProofs only [go_sem, Nat.reduceLT, Nat.reduceAdd, Nat.reduceSub, Nat.reduceMul, Nat.reduceEqDiff, Nat.reduceBEq, Nat.reduceLeDiff, Int.reduceToNat, Int.reduceLT, Int.reduceLE, Int.reduceEq, reduceCtorEq, ↓reduceIte, X42_10, k42_10, b68]
  · replace h := br_t b68 h
    cases h
    simp -implicitDefEqProofs only [go_sem, Nat.reduceLT, Nat.reduceAdd, Nat.reduceSub, Nat.reduceMul, Nat.reduceEqDiff, Nat.reduceBEq, Nat.reduceLeDiff, Int.reduceToNat, Int.reduceLT, Int.reduceLE, Int.reduceEq, reduceCtorEq, ↓reduceIte, X42_10, k42_10, b68]
def X42_9 (v66 : Bool) (a0 : Session) (a1 : Evt) (o : Bool) : Ex × Fr × St :=
  (.normal, frOf 144 (upd (upd (upd anyF 2 (.ptr 0 0 0)) 4 (.ptr 1 0 0)) 107 (.bool o)), [some ⟨.box, 5, [[.int .i64 a0.state, .int .i64 a0.hold, .int .i64 a0.left, .int .i64 a0.quiet, .int .i64 a0.ups]]⟩, some ⟨.box, 5, [[.int .i64 0, .int .i64 0, .int .i64 0, .int .i64 0, .int .i64 0]]⟩])
theorem e42_9 (v66 : Bool) (a0 : Session) (a1 : Evt) (o : Bool) (h : m42_9 v66 a0 a1 = some o) : evCL T 0 k42_9 (frOf 144 (upd (upd (upd (upd anyF 2 (.ptr 0 0 0)) 3 (.ptr 1 0 0)) 4 (.ptr 2 0 0)) 107 (.bool v66))) [some ⟨.box, 5, [[.int .i64 a0.state, .int .i64 a0.hold, .int .i64 a0.left, .int .i64 a0.quiet, .int .i64 a0.ups]]⟩, some ⟨.box, 2, [[.int .i64 a1.kind, .int .i64 a1.n]]⟩, some ⟨.box, 5, [[.int .i64 0, .int .i64 0, .int .i64 0, .int .i64 0, .int .i64 0]]⟩] = some (X42_9 v66 a0 a1 o) := by
  unfold m42_9 at h
  try simp -implicitDefEqProofs only [go_sem, Nat.reduceLT, Nat.reduceAdd, Nat.reduceSub, Nat.reduceMul, Nat.reduceEqDiff, Nat.reduceBEq, Nat.reduceLeDiff, Int.reduceToNat, Int.reduceLT, Int.reduceLE, Int.reduceEq, reduceCtorEq, ↓reduceIte, X42_9, k42_9]
  cases b67 : (v66 : Bool)
  · replace h := br_f b67 h
    obtain ⟨v71, q69, h⟩ := bnd_some h
    have w70 := e42_10 a0 a1 v71 q69
    simp only [X42_10] at w70
    try simp -implicitDefEqProofs only [go_sem, Nat.reduceLT, Nat.reduceAdd, Nat.reduceSub, Nat.reduceMul, Nat.reduceEqDiff, Nat.reduceBEq, Nat.reduceLeDiff, Int.reduceToNat, Int.reduceLT, Int.reduceLE, Int.reduceEq, reduceCtorEq, ↓reduceIte] at w70
    cases h
    simp -implicitDefEqProofs only [go_sem, Nat.reduceLT, Nat.reduceAdd, Nat.reduceSub, Nat.reduceMul, Nat.reduceEqDiff, Nat.reduceBEq, Nat.reduceLeDiff, Int.reduceToNat, Int.reduceLT, Int.reduceLE, Int.reduceEq, reduceCtorEq, ↓reduceIte, X42_9, k42_9, b67, w70]
  · replace h := br_t b67 h
    cases h
    simp -implicitDefEqProofs only [go_sem, Nat.reduceLT, Nat.reduceAdd, Nat.reduceSub, Nat.reduceMul, Nat.reduceEqDiff, Nat.reduceBEq, Nat.reduceLeDiff, Int.reduceToNat, Int.reduceLT, Int.reduceLE, Int.reduceEq, reduceCtorEq, ↓reduceIte, X42_9, k42_9, b67]
def X42_11 (a0 : Session) (o : Bool) : Ex × Fr × St :=
  (.normal, frOf 144 (upd (upd (upd anyF 2 (.ptr 0 0 0)) 4 (.ptr 1 0 0)) 131 (.bool o)), [some ⟨.box, 5, [[.int .i64 a0.state, .int .i64 a0.hold, .int .i64 a0.left, .int .i64 a0.quiet, .int .i64 a0.ups]]⟩, some ⟨.box, 5, [[.int .i64 0, .int .i64 0, .int .i64 0, .int .i64 0, .int .i64 0]]⟩])
theorem e42_11 (a0 : Session) (o : Bool) (h : m42_11 a0 = some o) : evCL T 0 k42_11 (frOf 144 (upd (upd anyF 2 (.ptr 0 0 0)) 4 (.ptr 1 0 0))) [some ⟨.box, 5, [[.int .i64 a0.state, .int .i64 a0.hold, .int .i64 a0.left, .int .i64 a0.quiet, .int .i64 a0.ups]]⟩, some ⟨.box, 5, [[.int .i64 0, .int .i64 0, .int .i64 0, .int .i64 0, .int .i64 0]]⟩] = some (X42_11 a0 o) := by
  unfold m42_11 at h
  try simp -implicitDefEqProofs only [go_sem, Nat.reduceLT, Nat.reduceAdd, Nat.reduceSub, Nat.reduceMul, Nat.reduceEqDiff, Nat.reduceBEq, Nat.reduceLeDiff, Int.reduceToNat, Int.reduceLT, Int.reduceLE, Int.reduceEq, reduceCtorEq, ↓reduceIte, X42_11, k42_11]
  cases b76 : (eqI a0.state 3 : Bool)
  · replace h := br_f b76 h
    cases h
    simp -implicitDefEqProofs only [go_sem, Nat.reduceLT, Nat.reduceAdd, Nat.reduceSub, Nat.reduceMul, Nat.reduceEqDiff, Nat.reduceBEq, Nat.reduceLeDiff, Int.reduceToNat, Int.reduceLT, Int.reduceLE, Int.reduceEq, reduceCtorEq, ↓reduceIte, X42_11, k42_11, b76]
  · replace h := br_t b76 h
    cases h
    simp -implicitDefEqProofs only [go_sem, Nat.reduceLT, Nat.reduceAdd, Nat.reduceSub, Nat.reduceMul, Nat.reduceEqDiff, Nat.reduceBEq, Nat.reduceLeDiff, Int.reduceToNat, Int.reduceLT, Int.reduceLE, Int.reduceEq, reduceCtorEq, ↓reduceIte, X42_11, k42_11, b76]
def X42_12 (v79 : Bool) (a0 : Session) (o : Int) : Ex × Fr × St :=
  (.normal, frOf 144 (upd (upd anyF 2 (.ptr 0 0 0)) 4 (.ptr 1 0 0)), [some ⟨.box, 5, [[.int .i64 a0.state, .int .i64 a0.hold, .int .i64 a0.left, .int .i64 a0.quiet, .int .i64 o]]⟩, some ⟨.box, 5, [[.int .i64 0, .int .i64 0, .int .i64 0, .int .i64 0, .int .i64 0]]⟩])
theorem e42_12 (v79 : Bool) (a0 : Session) (o : Int) (h : m42_12 v79 a0 = some o) : evCL T 0 k42_12 (frOf 144 (upd (upd (upd anyF 2 (.ptr 0 0 0)) 4 (.ptr 1 0 0)) 131 (.bool v79))) [some ⟨.box, 5, [[.int .i64 a0.state, .int .i64 a0.hold, .int .i64 a0.left, .int .i64 a0.quiet, .int .i64 a0.ups]]⟩, some ⟨.box, 5, [[.int .i64 0, .int .i64 0, .int .i64 0, .int .i64 0, .int .i64 0]]⟩] = some (X42_12 v79 a0 o) := by
  unfold m42_12 at h
  try simp -implicitDefEqProofs only [go_sem, Nat.reduceLT, Nat.reduceAdd, Nat.reduceSub, Nat.reduceMul, Nat.reduceEqDiff, Nat.reduceBEq, Nat.reduceLeDiff, Int.reduceToNat, Int.reduceLT, Int.reduceLE, Int.reduceEq, reduceCtorEq, ↓reduceIte, X42_12, k42_12]
  cases b80 : (v79 : Bool)
  · replace h := br_f b80 h
    cases h
    simp -implicitDefEqProofs only [go_sem, Nat.reduceLT, Nat.reduceAdd, Nat.reduceSub, Nat.reduceMul, Nat.reduceEqDiff, Nat.reduceBEq, Nat.reduceLeDiff, Int.reduceToNat, Int.reduceLT, Int.reduceLE, Int.reduceEq, reduceCtorEq, ↓reduceIte, X42_12, k42_12, b80]
  · replace h := br_t b80 h
    cases h
    simp -implicitDefEqProofs only [go_sem, Nat.reduceLT, Nat.reduceAdd, Nat.reduceSub, Nat.reduceMul, Nat.reduceEqDiff, Nat.reduceBEq, Nat.reduceLeDiff, Int.reduceToNat, Int.reduceLT, Int.reduceLE, Int.reduceEq, reduceCtorEq, ↓reduceIte, X42_12, k42_12, b80]
theorem call42 (args : List AV) (S : St) : evCall T (evFL T) 42 args S = lendC (evFL T 42) S (lendAll S [[0, 0, 0, 0, 0], [0, 0]] args) := evCall0 fn42 rfl rfl args S
theorem callz42 (args : List AV) (S : St) : evCallFz T (evFL T) 42 args S = lendZ (evFL T 42) S [[0, 0, 0, 0, 0], [1]] (lendAll S [[0, 0, 0, 0, 0], [0, 0]] args) := evCallFz0 fn42 rfl rfl args S
attribute [go_sem] call42 callz42
theorem e42 (a0 : Session) (a1 : Evt) (r : (Session × (List Int))) (h : m42 a0 a1 = some r) : evFL T 42 [.agg [.int .i64 a0.state, .int .i64 a0.hold, .int .i64 a0.left, .int .i64 a0.quiet, .int .i64 a0.ups], .agg [.int .i64 a1.kind, .int .i64 a1.n]] [] = some (.tup [.agg [.int .i64 r.1.state, .int .i64 r.1.hold, .int .i64 r.1.left, .int .i64 r.1.quiet, .int .i64 r.1.ups], .sl 0 0 r.2.length], [some ⟨.arr, 1, r.2.map encInt⟩]) := by
  unfold m42 at h
  rw [evFL_at fn42 (Nat.le_of_ble_eq_true rfl) rfl (.inr rfl)]
  try simp -implicitDefEqProofs only [go_sem, Nat.reduceLT, Nat.reduceAdd, Nat.reduceSub, Nat.reduceMul, Nat.reduceEqDiff, Nat.reduceBEq, Nat.reduceLeDiff, Int.reduceToNat, Int.reduceLT, Int.reduceLE, Int.reduceEq, reduceCtorEq, ↓reduceIte, i42, c42]
  cases b1 : (eqI a1.kind 10 : Bool)
  · replace h := br_f b1 h
    obtain ⟨v10, q8, h⟩ := bnd_some h
    have w9 := e42_1 (leI 2 a0.state) a0 a1 v10 q8
    simp only [X42_1] at w9
    try simp -implicitDefEqProofs only [go_sem, Nat.reduceLT, Nat.reduceAdd, Nat.reduceSub, Nat.reduceMul, Nat.reduceEqDiff, Nat.reduceBEq, Nat.reduceLeDiff, Int.reduceToNat, Int.reduceLT, Int.reduceLE, Int.reduceEq, reduceCtorEq, ↓reduceIte] at w9
    try simp -implicitDefEqProofs only [go_sem, Nat.reduceLT, Nat.reduceAdd, Nat.reduceSub, Nat.reduceMul, Nat.reduceEqDiff, Nat.reduceBEq, Nat.reduceLeDiff, Int.reduceToNat, Int.reduceLT, Int.reduceLE, Int.reduceEq, reduceCtorEq, ↓reduceIte, i42, c42, b1, w9]
    cases b11 : (v10 : Bool)
    · replace h := br_f b11 h
      obtain ⟨v19, q17, h⟩ := bnd_some h
      have w18 := e42_2 (leI 2 a0.state) a0 a1 v19 q17
      simp only [X42_2] at w18
      try simp -implicitDefEqProofs only [go_sem, Nat.reduceLT, Nat.reduceAdd, Nat.reduceSub, Nat.reduceMul, Nat.reduceEqDiff, Nat.reduceBEq, Nat.reduceLeDiff, Int.reduceToNat, Int.reduceLT, Int.reduceLE, Int.reduceEq, reduceCtorEq, ↓reduceIte] at w18
      try simp -implicitDefEqProofs only [go_sem, Nat.reduceLT, Nat.reduceAdd, Nat.reduceSub, Nat.reduceMul, Nat.reduceEqDiff, Nat.reduceBEq, Nat.reduceLeDiff, Int.reduceToNat, Int.reduceLT, Int.reduceLE, Int.reduceEq, reduceCtorEq, ↓reduceIte, i42, c42, b1, w9, b11, w18]
      cases b20 : (v19 : Bool)
      · replace h := br_f b20 h
        obtain ⟨v28, q26, h⟩ := bnd_some h
        have w27 := e42_3 (leI 2 a0.state) a0 a1 v28 q26
        simp only [X42_3] at w27
        try simp -implicitDefEqProofs only [go_sem, Nat.reduceLT, Nat.reduceAdd, Nat.reduceSub, Nat.reduceMul, Nat.reduceEqDiff, Nat.reduceBEq, Nat.reduceLeDiff, Int.reduceToNat, Int.reduceLT, Int.reduceLE, Int.reduceEq, reduceCtorEq, ↓reduceIte] at w27
        try simp -implicitDefEqProofs only [go_sem, Nat.reduceLT, Nat.reduceAdd, Nat.reduceSub, Nat.reduceMul, Nat.reduceEqDiff, Nat.reduceBEq, Nat.reduceLeDiff, Int.reduceToNat, Int.reduceLT, Int.reduceLE, Int.reduceEq, reduceCtorEq, ↓reduceIte, i42, c42, b1, w9, b11, w18, b20, w27]
        cases b29 : (v28 : Bool)
        · replace h := br_f b29 h
          obtain ⟨v37, q35, h⟩ := bnd_some h
          have w36 := e42_4 (leI 2 a0.state) a0 a1 v37 q35
          simp only [X42_4] at w36
          try simp -implicitDefEqProofs only [go_sem, Nat.reduceLT, Nat.reduceAdd, Nat.reduceSub, Nat.reduceMul, Nat.reduceEqDiff, Nat.reduceBEq, Nat.reduceLeDiff, Int.reduceToNat, Int.reduceLT, Int.reduceLE, Int.reduceEq, reduceCtorEq, ↓reduceIte] at w36
          try simp -implicitDefEqProofs only [go_sem, Nat.reduceLT, Nat.reduceAdd, Nat.reduceSub, Nat.reduceMul, Nat.reduceEqDiff, Nat.reduceBEq, Nat.reduceLeDiff, Int.reduceToNat, Int.reduceLT, Int.reduceLE, Int.reduceEq, reduceCtorEq, ↓reduceIte, i42, c42, b1, w9, b11, w18, b20, w27, b29, w36]
          cases b38 : (v37 : Bool)
          · replace h := br_f b38 h
            obtain ⟨v46, q44, h⟩ := bnd_some h
            have w45 := e42_5 (leI 2 a0.state) a0 a1 v46 q44
            simp only [X42_5] at w45
            try simp -implicitDefEqProofs only [go_sem, Nat.reduceLT, Nat.reduceAdd, Nat.reduceSub, Nat.reduceMul, Nat.reduceEqDiff, Nat.reduceBEq, Nat.reduceLeDiff, Int.reduceToNat, Int.reduceLT, Int.reduceLE, Int.reduceEq, reduceCtorEq, ↓reduceIte] at w45
            try simp -implicitDefEqProofs only [go_sem, Nat.reduceLT, Nat.reduceAdd, Nat.reduceSub, Nat.reduceMul, Nat.reduceEqDiff, Nat.reduceBEq, Nat.reduceLeDiff, Int.reduceToNat, Int.reduceLT, Int.reduceLE, Int.reduceEq, reduceCtorEq, ↓reduceIte, i42, c42, b1, w9, b11, w18, b20, w27, b29, w36, b38, w45]
            cases b47 : (v46 : Bool)
            · replace h := br_f b47 h
              try simp -implicitDefEqProofs only [go_sem, Nat.reduceLT, Nat.reduceAdd, Nat.reduceSub, Nat.reduceMul, Nat.reduceEqDiff, Nat.reduceBEq, Nat.reduceLeDiff, Int.reduceToNat, Int.reduceLT, Int.reduceLE, Int.reduceEq, reduceCtorEq, ↓reduceIte, i42, c42, b1, w9, b11, w18, b20, w27, b29, w36, b38, w45, b47]
              cases b51 : (leI 2 a0.state : Bool)
              · replace h := br_f b51 h
                cases h
                simp -implicitDefEqProofs only [go_sem, Nat.reduceLT, Nat.reduceAdd, Nat.reduceSub, Nat.reduceMul, Nat.reduceEqDiff, Nat.reduceBEq, Nat.reduceLeDiff, Int.reduceToNat, Int.reduceLT, Int.reduceLE, Int.reduceEq, reduceCtorEq, ↓reduceIte, i42, c42, b1, w9, b11, w18, b20, w27, b29, w36, b38, w45, b47, b51]
              · replace h := br_t b51 h
                obtain ⟨v56, q54, h⟩ := bnd_some h
                have w55 := e42_6 a0 a1 v56 q54
                simp only [X42_6] at w55
                try simp -implicitDefEqProofs only [go_sem, Nat.reduceLT, Nat.reduceAdd, Nat.reduceSub, Nat.reduceMul, Nat.reduceEqDiff, Nat.reduceBEq, Nat.reduceLeDiff, Int.reduceToNat, Int.reduceLT, Int.reduceLE, Int.reduceEq, reduceCtorEq, ↓reduceIte] at w55
                try simp -implicitDefEqProofs only [go_sem, Nat.reduceLT, Nat.reduceAdd, Nat.reduceSub, Nat.reduceMul, Nat.reduceEqDiff, Nat.reduceBEq, Nat.reduceLeDiff, Int.reduceToNat, Int.reduceLT, Int.reduceLE, Int.reduceEq, reduceCtorEq, ↓reduceIte, i42, c42, b1, w9, b11, w18, b20, w27, b29, w36, b38, w45, b47, b51, w55]
                cases b57 : (v56 : Bool)
                · replace h := br_f b57 h
                  obtain ⟨v66, q64, h⟩ := bnd_some h
                  have w65 := e42_8 a0 a1 v66 q64
                  simp only [X42_8] at w65
                  try simp -implicitDefEqProofs only [go_sem, Nat.reduceLT, Nat.reduceAdd, Nat.reduceSub, Nat.reduceMul, Nat.reduceEqDiff, Nat.reduceBEq, Nat.reduceLeDiff, Int.reduceToNat, Int.reduceLT, Int.reduceLE, Int.reduceEq, reduceCtorEq, ↓reduceIte] at w65
                  obtain ⟨v74, q72, h⟩ := bnd_some h
                  have w73 := e42_9 v66 a0 a1 v74 q72
                  simp only [X42_9] at w73
                  try simp -implicitDefEqProofs only [go_sem, Nat.reduceLT, Nat.reduceAdd, Nat.reduceSub, Nat.reduceMul, Nat.reduceEqDiff, Nat.reduceBEq, Nat.reduceLeDiff, Int.reduceToNat, Int.reduceLT, Int.reduceLE, Int.reduceEq, reduceCtorEq, ↓reduceIte] at w73
                  try simp -implicitDefEqProofs only [go_sem, Nat.reduceLT, Nat.reduceAdd, Nat.reduceSub, Nat.reduceMul, Nat.reduceEqDiff, Nat.reduceBEq, Nat.reduceLeDiff, Int.reduceToNat, Int.reduceLT, Int.reduceLE, Int.reduceEq, reduceCtorEq, ↓reduceIte, i42, c42, b1, w9, b11, w18, b20, w27, b29, w36, b38, w45, b47, b51, w55, b57, w65, w73]
                  cases b75 : (v74 : Bool)
                  · replace h := br_f b75 h
                    obtain ⟨r86, q84, h⟩ := bnd_some h
                    have w85 := e60 a0 0 r86 q84
                    try simp -implicitDefEqProofs only [go_sem, Nat.reduceLT, Nat.reduceAdd, Nat.reduceSub, Nat.reduceMul, Nat.reduceEqDiff, Nat.reduceBEq, Nat.reduceLeDiff, Int.reduceToNat, Int.reduceLT, Int.reduceLE, Int.reduceEq, reduceCtorEq, ↓reduceIte] at w85
                    cases h
                    simp -implicitDefEqProofs only [go_sem, Nat.reduceLT, Nat.reduceAdd, Nat.reduceSub, Nat.reduceMul, Nat.reduceEqDiff, Nat.reduceBEq, Nat.reduceLeDiff, Int.reduceToNat, Int.reduceLT, Int.reduceLE, Int.reduceEq, reduceCtorEq, ↓reduceIte, i42, c42, b1, w9, b11, w18, b20, w27, b29, w36, b38, w45, b47, b51, w55, b57, w65, w73, b75, w85]
                  · replace h := br_t b75 h
                    obtain ⟨v79, q77, h⟩ := bnd_some h
                    have w78 := e42_11 a0 v79 q77
                    simp only [X42_11] at w78
                    try simp -implicitDefEqProofs only [go_sem, Nat.reduceLT, Nat.reduceAdd, Nat.reduceSub, Nat.reduceMul, Nat.reduceEqDiff, Nat.reduceBEq, Nat.reduceLeDiff, Int.reduceToNat, Int.reduceLT, Int.reduceLE, Int.reduceEq, reduceCtorEq, ↓reduceIte] at w78
                    obtain ⟨v83, q81, h⟩ := bnd_some h
                    have w82 := e42_12 v79 a0 v83 q81
                    simp only [X42_12] at w82
                    try simp -implicitDefEqProofs only [go_sem, Nat.reduceLT, Nat.reduceAdd, Nat.reduceSub, Nat.reduceMul, Nat.reduceEqDiff, Nat.reduceBEq, Nat.reduceLeDiff, Int.reduceToNat, Int.reduceLT, Int.reduceLE, Int.reduceEq, reduceCtorEq, ↓reduceIte] at w82
                    cases h
                    simp -implicitDefEqProofs only [go_sem, Nat.reduceLT, Nat.reduceAdd, Nat.reduceSub, Nat.reduceMul, Nat.reduceEqDiff, Nat.reduceBEq, Nat.reduceLeDiff, Int.reduceToNat, Int.reduceLT, Int.reduceLE, Int.reduceEq, reduceCtorEq, ↓reduceIte, i42, c42, b1, w9, b11, w18, b20, w27, b29, w36, b38, w45, b47, b51, w55, b57, w65, w73, b75, w78, w82]
                · replace h := br_t b57 h
                  obtain ⟨v62, q60, h⟩ := bnd_some h
                  have w61 := e42_7 (ltI a1.n a0.hold) a0 a1 v62 q60
                  simp only [X42_7] at w61
                  try simp -implicitDefEqProofs only [go_sem, Nat.reduceLT, Nat.reduceAdd, Nat.reduceSub, Nat.reduceMul, Nat.reduceEqDiff, Nat.reduceBEq, Nat.reduceLeDiff, Int.reduceToNat, Int.reduceLT, Int.reduceLE, Int.reduceEq, reduceCtorEq, ↓reduceIte] at w61
                  cases h
                  simp -implicitDefEqProofs only [go_sem, Nat.reduceLT, Nat.reduceAdd, Nat.reduceSub, Nat.reduceMul, Nat.reduceEqDiff, Nat.reduceBEq, Nat.reduceLeDiff, Int.reduceToNat, Int.reduceLT, Int.reduceLE, Int.reduceEq, reduceCtorEq, ↓reduceIte, i42, c42, b1, w9, b11, w18, b20, w27, b29, w36, b38, w45, b47, b51, w55, b57, w61]
            · replace h := br_t b47 h
              obtain ⟨r50, q48, h⟩ := bnd_some h
              have w49 := e60 a0 0 r50 q48
              try simp -implicitDefEqProofs only [go_sem, Nat.reduceLT, Nat.reduceAdd, Nat.reduceSub, Nat.reduceMul, Nat.reduceEqDiff, Nat.reduceBEq, Nat.reduceLeDiff, Int.reduceToNat, Int.reduceLT, Int.reduceLE, Int.reduceEq, reduceCtorEq, ↓reduceIte] at w49
              cases h
              simp -implicitDefEqProofs only [go_sem, Nat.reduceLT, Nat.reduceAdd, Nat.reduceSub, Nat.reduceMul, Nat.reduceEqDiff, Nat.reduceBEq, Nat.reduceLeDiff, Int.reduceToNat, Int.reduceLT, Int.reduceLE, Int.reduceEq, reduceCtorEq, ↓reduceIte, i42, c42, b1, w9, b11, w18, b20, w27, b29, w36, b38, w45, b47, w49]
          · replace h := br_t b38 h
            obtain ⟨r41, q39, h⟩ := bnd_some h
            have w40 := e60 a0 0 r41 q39
            try simp -implicitDefEqProofs only [go_sem, Nat.reduceLT, Nat.reduceAdd, Nat.reduceSub, Nat.reduceMul, Nat.reduceEqDiff, Nat.reduceBEq, Nat.reduceLeDiff, Int.reduceToNat, Int.reduceLT, Int.reduceLE, Int.reduceEq, reduceCtorEq, ↓reduceIte] at w40
            cases h
            simp -implicitDefEqProofs only [go_sem, Nat.reduceLT, Nat.reduceAdd, Nat.reduceSub, Nat.reduceMul, Nat.reduceEqDiff, Nat.reduceBEq, Nat.reduceLeDiff, Int.reduceToNat, Int.reduceLT, Int.reduceLE, Int.reduceEq, reduceCtorEq, ↓reduceIte, i42, c42, b1, w9, b11, w18, b20, w27, b29, w36, b38, w40]
        · replace h := br_t b29 h
          obtain ⟨r32, q30, h⟩ := bnd_some h
          have w31 := e60 a0 1 r32 q30
          try simp -implicitDefEqProofs only [go_sem, Nat.reduceLT, Nat.reduceAdd, Nat.reduceSub, Nat.reduceMul, Nat.reduceEqDiff, Nat.reduceBEq, Nat.reduceLeDiff, Int.reduceToNat, Int.reduceLT, Int.reduceLE, Int.reduceEq, reduceCtorEq, ↓reduceIte] at w31
          cases h
          simp -implicitDefEqProofs only [go_sem, Nat.reduceLT, Nat.reduceAdd, Nat.reduceSub, Nat.reduceMul, Nat.reduceEqDiff, Nat.reduceBEq, Nat.reduceLeDiff, Int.reduceToNat, Int.reduceLT, Int.reduceLE, Int.reduceEq, reduceCtorEq, ↓reduceIte, i42, c42, b1, w9, b11, w18, b20, w27, b29, w31]
      · replace h := br_t b20 h
        obtain ⟨r23, q21, h⟩ := bnd_some h
        have w22 := e60 a0 2 r23 q21
        try simp -implicitDefEqProofs only [go_sem, Nat.reduceLT, Nat.reduceAdd, Nat.reduceSub, Nat.reduceMul, Nat.reduceEqDiff, Nat.reduceBEq, Nat.reduceLeDiff, Int.reduceToNat, Int.reduceLT, Int.reduceLE, Int.reduceEq, reduceCtorEq, ↓reduceIte] at w22
        cases h
        simp -implicitDefEqProofs only [go_sem, Nat.reduceLT, Nat.reduceAdd, Nat.reduceSub, Nat.reduceMul, Nat.reduceEqDiff, Nat.reduceBEq, Nat.reduceLeDiff, Int.reduceToNat, Int.reduceLT, Int.reduceLE, Int.reduceEq, reduceCtorEq, ↓reduceIte, i42, c42, b1, w9, b11, w18, b20, w22]
    · replace h := br_t b11 h
      obtain ⟨r14, q12, h⟩ := bnd_some h
      have w13 := e60 a0 1 r14 q12
      try simp -implicitDefEqProofs only [go_sem, Nat.reduceLT, Nat.reduceAdd, Nat.reduceSub, Nat.reduceMul, Nat.reduceEqDiff, Nat.reduceBEq, Nat.reduceLeDiff, Int.reduceToNat, Int.reduceLT, Int.reduceLE, Int.reduceEq, reduceCtorEq, ↓reduceIte] at w13
      cases h
      simp -implicitDefEqProofs only [go_sem, Nat.reduceLT, Nat.reduceAdd, Nat.reduceSub, Nat.reduceMul, Nat.reduceEqDiff, Nat.reduceBEq, Nat.reduceLeDiff, Int.reduceToNat, Int.reduceLT, Int.reduceLE, Int.reduceEq, reduceCtorEq, ↓reduceIte, i42, c42, b1, w9, b11, w13]
  · replace h := br_t b1 h
    obtain ⟨⟨r4, r5⟩, q2, h⟩ := bnd_some h
    replace h := sel2_some h
    have w3 := e49 a0 (r4, r5) q2
    try simp -implicitDefEqProofs only [go_sem, Nat.reduceLT, Nat.reduceAdd, Nat.reduceSub, Nat.reduceMul, Nat.reduceEqDiff, Nat.reduceBEq, Nat.reduceLeDiff, Int.reduceToNat, Int.reduceLT, Int.reduceLE, Int.reduceEq, reduceCtorEq, ↓reduceIte] at w3
    cases h
    simp -implicitDefEqProofs only [go_sem, Nat.reduceLT, Nat.reduceAdd, Nat.reduceSub, Nat.reduceMul, Nat.reduceEqDiff, Nat.reduceBEq, Nat.reduceLeDiff, Int.reduceToNat, Int.reduceLT, Int.reduceLE, Int.reduceEq, reduceCtorEq, ↓reduceIte, i42, c42, b1, w3]
-- f19 spec.StepSession
def X19_1 (a0 : Session) (a1 : Evt) (o : Bool) : Ex × Fr × St :=
  (.normal, frOf 26 (upd (upd (upd (upd anyF 2 (.ptr 0 0 0)) 3 (.ptr 1 0 0)) 4 (.ptr 2 0 0)) 16 (.bool o)), [some ⟨.box, 5, [[.int .i64 a0.state, .int .i64 a0.hold, .int .i64 a0.left, .int .i64 a0.quiet, .int .i64 a0.ups]]⟩, some ⟨.box, 2, [[.int .i64 a1.kind, .int .i64 a1.n]]⟩, some ⟨.box, 5, [[.int .i64 0, .int .i64 0, .int .i64 0, .int .i64 0, .int .i64 0]]⟩])
theorem e19_1 (a0 : Session) (a1 : Evt) (o : Bool) (h : m19_1 a0 a1 = some o) : evCL T 0 k19_1 (frOf 26 (upd (upd (upd anyF 2 (.ptr 0 0 0)) 3 (.ptr 1 0 0)) 4 (.ptr 2 0 0))) [some ⟨.box, 5, [[.int .i64 a0.state, .int .i64 a0.hold, .int .i64 a0.left, .int .i64 a0.quiet, .int .i64 a0.ups]]⟩, some ⟨.box, 2, [[.int .i64 a1.kind, .int .i64 a1.n]]⟩, some ⟨.box, 5, [[.int .i64 0, .int .i64 0, .int .i64 0, .int .i64 0, .int .i64 0]]⟩] = some (X19_1 a0 a1 o) := by
  unfold m19_1 at h
  obtain ⟨r3, q1, h⟩ := bnd_some h
  have w2 := e14 a0 r3 q1
  try simp -implicitDefEqProofs only [go_sem, Nat.reduceLT, Nat.reduceAdd, Nat.reduceSub, Nat.reduceMul, Nat.reduceEqDiff, Nat.reduceBEq, Nat.reduceLeDiff, Int.reduceToNat, Int.reduceLT, Int.reduceLE, Int.reduceEq, reduceCtorEq, ↓reduceIte] at w2
  try simp -implicitDefEqProofs only [go_sem, Nat.reduceLT, Nat.reduceAdd, Nat.reduceSub, Nat.reduceMul, Nat.reduceEqDiff, Nat.reduceBEq, Nat.reduceLeDiff, Int.reduceToNat, Int.reduceLT, Int.reduceLE, Int.reduceEq, reduceCtorEq, ↓reduceIte, X19_1, k19_1, w2]
  cases b4 : (r3 : Bool)
  · replace h := br_f b4 h
    cases h
    simp -implicitDefEqProofs only [go_sem, Nat.reduceLT, Nat.reduceAdd, Nat.reduceSub, Nat.reduceMul, Nat.reduceEqDiff, Nat.reduceBEq, Nat.reduceLeDiff, Int.reduceToNat, Int.reduceLT, Int.reduceLE, Int.reduceEq, reduceCtorEq, ↓reduceIte, X19_1, k19_1, w2, b4]
  · replace h := br_t b4 h
    obtain ⟨r7, q5, h⟩ := bnd_some h
    have w6 := e41 a1 r7 q5
    try simp -implicitDefEqProofs only [go_sem, Nat.reduceLT, Nat.reduceAdd, Nat.reduceSub, Nat.reduceMul, Nat.reduceEqDiff, Nat.reduceBEq, Nat.reduceLeDiff, Int.reduceToNat, Int.reduceLT, Int.reduceLE, Int.reduceEq, reduceCtorEq, ↓reduceIte] at w6
    cases h
    simp -implicitDefEqProofs only [go_sem, Nat.reduceLT, Nat.reduceAdd, Nat.reduceSub, Nat.reduceMul, Nat.reduceEqDiff, Nat.reduceBEq, Nat.reduceLeDiff, Int.reduceToNat, Int.reduceLT, Int.reduceLE, Int.reduceEq, reduceCtorEq, ↓reduceIte, X19_1, k19_1, w2, b4, w6]
theorem call19 (args : List AV) (S : St) : evCall T (evFL T) 19 args S = lendC (evFL T 19) S (lendAll S [[0, 0, 0, 0, 0], [0, 0]] args) := evCall0 fn19 rfl rfl args S
theorem callz19 (args : List AV) (S : St) : evCallFz T (evFL T) 19 args S = lendZ (evFL T 19) S [[0, 0, 0, 0, 0], [1], [0]] (lendAll S [[0, 0, 0, 0, 0], [0, 0]] args) := evCallFz0 fn19 rfl rfl args S
attribute [go_sem] call19 callz19
theorem e19 (a0 : Session) (a1 : Evt) (r : (Session × (List Int) × Bool)) (h : m19 a0 a1 = some r) : evFL T 19 [.agg [.int .i64 a0.state, .int .i64 a0.hold, .int .i64 a0.left, .int .i64 a0.quiet, .int .i64 a0.ups], .agg [.int .i64 a1.kind, .int .i64 a1.n]] [] = some (.tup [.agg [.int .i64 r.1.state, .int .i64 r.1.hold, .int .i64 r.1.left, .int .i64 r.1.quiet, .int .i64 r.1.ups], .sl 0 0 r.2.1.length, .bool r.2.2], [some ⟨.arr, 1, r.2.1.map encInt⟩]) := by
  unfold m19 at h
  rw [evFL_at fn19 (Nat.le_of_ble_eq_true rfl) rfl (.inr rfl)]
  obtain ⟨v10, q8, h⟩ := bnd_some h
  have w9 := e19_1 a0 a1 v10 q8
  simp only [X19_1] at w9
  try simp -implicitDefEqProofs only [go_sem, Nat.reduceLT, Nat.reduceAdd, Nat.reduceSub, Nat.reduceMul, Nat.reduceEqDiff, Nat.reduceBEq, Nat.reduceLeDiff, Int.reduceToNat, Int.reduceLT, Int.reduceLE, Int.reduceEq, reduceCtorEq, ↓reduceIte] at w9
  try simp -implicitDefEqProofs only [go_sem, Nat.reduceLT, Nat.reduceAdd, Nat.reduceSub, Nat.reduceMul, Nat.reduceEqDiff, Nat.reduceBEq, Nat.reduceLeDiff, Int.reduceToNat, Int.reduceLT, Int.reduceLE, Int.reduceEq, reduceCtorEq, ↓reduceIte, i19, c19, w9]
  cases b11 : (v10 : Bool)
  · replace h := br_f b11 h
    obtain ⟨⟨r14, r15⟩, q12, h⟩ := bnd_some h
    replace h := sel2_some h
    have w13 := e42 a0 a1 (r14, r15) q12
    try simp -implicitDefEqProofs only [go_sem, Nat.reduceLT, Nat.reduceAdd, Nat.reduceSub, Nat.reduceMul, Nat.reduceEqDiff, Nat.reduceBEq, Nat.reduceLeDiff, Int.reduceToNat, Int.reduceLT, Int.reduceLE, Int.reduceEq, reduceCtorEq, ↓reduceIte] at w13
    cases h
    simp -implicitDefEqProofs only [go_sem, Nat.reduceLT, Nat.reduceAdd, Nat.reduceSub, Nat.reduceMul, Nat.reduceEqDiff, Nat.reduceBEq, Nat.reduceLeDiff, Int.reduceToNat, Int.reduceLT, Int.reduceLE, Int.reduceEq, reduceCtorEq, ↓reduceIte, i19, c19, w9, b11, w13]
  · replace h := br_t b11 h
    cases h
    simp -implicitDefEqProofs only [go_sem, Nat.reduceLT, Nat.reduceAdd, Nat.reduceSub, Nat.reduceMul, Nat.reduceEqDiff, Nat.reduceBEq, Nat.reduceLeDiff, Int.reduceToNat, Int.reduceLT, Int.reduceLE, Int.reduceEq, reduceCtorEq, ↓reduceIte, i19, c19, w9, b11]
-- f40 impl.within
def X40_1 (a0 : Int) (a1 : Int) (a2 : Int) (o : Bool) : Ex × Fr × St :=
  (.normal, frOf 15 (upd anyF 6 (.bool o)), [])
theorem e40_1 (a0 : Int) (a1 : Int) (a2 : Int) (o : Bool) (h : m40_1 a0 a1 a2 = some o) : evCL T 0 k40_1 (frOf 15 (upd (upd (upd anyF 0 (.int .i64 a0)) 1 (.int .i64 a1)) 2 (.int .i64 a2))) [] = some (X40_1 a0 a1 a2 o) := by
  unfold m40_1 at h
  try simp -implicitDefEqProofs only [go_sem, Nat.reduceLT, Nat.reduceAdd, Nat.reduceSub, Nat.reduceMul, Nat.reduceEqDiff, Nat.reduceBEq, Nat.reduceLeDiff, Int.reduceToNat, Int.reduceLT, Int.reduceLE, Int.reduceEq, reduceCtorEq, ↓reduceIte, X40_1, k40_1]
  cases b1 : (leI a1 a0 : Bool)
  · replace h := br_f b1 h
    cases h
    simp -implicitDefEqProofs only [go_sem, Nat.reduceLT, Nat.reduceAdd, Nat.reduceSub, Nat.reduceMul, Nat.reduceEqDiff, Nat.reduceBEq, Nat.reduceLeDiff, Int.reduceToNat, Int.reduceLT, Int.reduceLE, Int.reduceEq, reduceCtorEq, ↓reduceIte, X40_1, k40_1, b1]
  · replace h := br_t b1 h
    cases h
    simp -implicitDefEqProofs only [go_sem, Nat.reduceLT, Nat.reduceAdd, Nat.reduceSub, Nat.reduceMul, Nat.reduceEqDiff, Nat.reduceBEq, Nat.reduceLeDiff, Int.reduceToNat, Int.reduceLT, Int.reduceLE, Int.reduceEq, reduceCtorEq, ↓reduceIte, X40_1, k40_1, b1]
theorem call40 (args : List AV) (S : St) : evCall T (evFL T) 40 args S = lendC (evFL T 40) S (lendAll S [[0], [0], [0]] args) := evCall0 fn40 rfl rfl args S
theorem callz40 (args : List AV) (S : St) : evCallFz T (evFL T) 40 args S = lendZ (evFL T 40) S [[0]] (lendAll S [[0], [0], [0]] args) := evCallFz0 fn40 rfl rfl args S
attribute [go_sem] call40 callz40
theorem e40 (a0 : Int) (a1 : Int) (a2 : Int) (r : Bool) (h : m40 a0 a1 a2 = some r) : evFL T 40 [.int .i64 a0, .int .i64 a1, .int .i64 a2] [] = some (.bool r, []) := by
  unfold m40 at h
  rw [evFL_at fn40 (Nat.le_of_ble_eq_true rfl) rfl (.inr rfl)]
  obtain ⟨v4, q2, h⟩ := bnd_some h
  have w3 := e40_1 a0 a1 a2 v4 q2
  simp only [X40_1] at w3
  try simp -implicitDefEqProofs only [go_sem, Nat.reduceLT, Nat.reduceAdd, Nat.reduceSub, Nat.reduceMul, Nat.reduceEqDiff, Nat.reduceBEq, Nat.reduceLeDiff, Int.reduceToNat, Int.reduceLT, Int.reduceLE, Int.reduceEq, reduceCtorEq, ↓reduceIte] at w3
  cases h
  simp -implicitDefEqProofs only [go_sem, Nat.reduceLT, Nat.reduceAdd, Nat.reduceSub, Nat.reduceMul, Nat.reduceEqDiff, Nat.reduceBEq, Nat.reduceLeDiff, Int.reduceToNat, Int.reduceLT, Int.reduceLE, Int.reduceEq, reduceCtorEq, ↓reduceIte, i40, c40, w3]
-- f16 impl.GoodSession
def X16_1 (a0 : Session) (o : Bool) : Ex × Fr × St :=
  (.normal, frOf 43 (upd (upd anyF 1 (.ptr 0 0 0)) 20 (.bool o)), [some ⟨.box, 5, [[.int .i64 a0.state, .int .i64 a0.hold, .int .i64 a0.left, .int .i64 a0.quiet, .int .i64 a0.ups]]⟩])
theorem e16_1 (a0 : Session) (o : Bool) (h : m16_1 a0 = some o) : evCL T 0 k16_1 (frOf 43 (upd anyF 1 (.ptr 0 0 0))) [some ⟨.box, 5, [[.int .i64 a0.state, .int .i64 a0.hold, .int .i64 a0.left, .int .i64 a0.quiet, .int .i64 a0.ups]]⟩] = some (X16_1 a0 o) := by
  unfold m16_1 at h
  obtain ⟨r3, q1, h⟩ := bnd_some h
  have w2 := e40 a0.state 0 4 r3 q1
  try simp -implicitDefEqProofs only [go_sem, Nat.reduceLT, Nat.reduceAdd, Nat.reduceSub, Nat.reduceMul, Nat.reduceEqDiff, Nat.reduceBEq, Nat.reduceLeDiff, Int.reduceToNat, Int.reduceLT, Int.reduceLE, Int.reduceEq, reduceCtorEq, ↓reduceIte] at w2
  try simp -implicitDefEqProofs only [go_sem, Nat.reduceLT, Nat.reduceAdd, Nat.reduceSub, Nat.reduceMul, Nat.reduceEqDiff, Nat.reduceBEq, Nat.reduceLeDiff, Int.reduceToNat, Int.reduceLT, Int.reduceLE, Int.reduceEq, reduceCtorEq, ↓reduceIte, X16_1, k16_1, w2]
  cases b4 : (r3 : Bool)
  · replace h := br_f b4 h
    cases h
    simp -implicitDefEqProofs only [go_sem, Nat.reduceLT, Nat.reduceAdd, Nat.reduceSub, Nat.reduceMul, Nat.reduceEqDiff, Nat.reduceBEq, Nat.reduceLeDiff, Int.reduceToNat, Int.reduceLT, Int.reduceLE, Int.reduceEq, reduceCtorEq, ↓reduceIte, X16_1, k16_1, w2, b4]
  · replace h := br_t b4 h
    obtain ⟨r7, q5, h⟩ := bnd_some h
    have w6 := e40 a0.hold 3 90 r7 q5
    try simp -implicitDefEqProofs only [go_sem, Nat.reduceLT, Nat.reduceAdd, Nat.reduceSub, Nat.reduceMul, Nat.reduceEqDiff, Nat.reduceBEq, Nat.reduceLeDiff, Int.reduceToNat, Int.reduceLT, Int.reduceLE, Int.reduceEq, reduceCtorEq, ↓reduceIte] at w6
    try simp -implicitDefEqProofs only [go_sem, Nat.reduceLT, Nat.reduceAdd, Nat.reduceSub, Nat.reduceMul, Nat.reduceEqDiff, Nat.reduceBEq, Nat.reduceLeDiff, Int.reduceToNat, Int.reduceLT, Int.reduceLE, Int.reduceEq, reduceCtorEq, ↓reduceIte, X16_1, k16_1, w2, b4, w6]
    cases b8 : (r7 : Bool)
    · replace h := br_f b8 h
      cases h
      simp -implicitDefEqProofs only [go_sem, Nat.reduceLT, Nat.reduceAdd, Nat.reduceSub, Nat.reduceMul, Nat.reduceEqDiff, Nat.reduceBEq, Nat.reduceLeDiff, Int.reduceToNat, Int.reduceLT, Int.reduceLE, Int.reduceEq, reduceCtorEq, ↓reduceIte, X16_1, k16_1, w2, b4, w6, b8]
    · replace h := br_t b8 h
      obtain ⟨r11, q9, h⟩ := bnd_some h
      have w10 := e40 a0.ups 0 1000 r11 q9
      try simp -implicitDefEqProofs only [go_sem, Nat.reduceLT, Nat.reduceAdd, Nat.reduceSub, Nat.reduceMul, Nat.reduceEqDiff, Nat.reduceBEq, Nat.reduceLeDiff, Int.reduceToNat, Int.reduceLT, Int.reduceLE, Int.reduceEq, reduceCtorEq, ↓reduceIte] at w10
      cases h
      simp -implicitDefEqProofs only [go_sem, Nat.reduceLT, Nat.reduceAdd, Nat.reduceSub, Nat.reduceMul, Nat.reduceEqDiff, Nat.reduceBEq, Nat.reduceLeDiff, Int.reduceToNat, Int.reduceLT, Int.reduceLE, Int.reduceEq, reduceCtorEq, ↓reduceIte, X16_1, k16_1, w2, b4, w6, b8, w10]
def X16_2 (p16 : Bool) (p17 : Bool) (p18 : Bool) (a0 : Session) (o : Bool) : Ex × Fr × St :=
  (.normal, frOf 43 (upd (upd (upd anyF 1 (.ptr 0 0 0)) 3 (.bool o)) 4 (.bool p17)), [some ⟨.box, 5, [[.int .i64 a0.state, .int .i64 a0.hold, .int .i64 a0.left, .int .i64 a0.quiet, .int .i64 a0.ups]]⟩])
theorem e16_2 (p16 : Bool) (p17 : Bool) (p18 : Bool) (a0 : Session) (o : Bool) (h : m16_2 p16 p18 a0 = some o) : evCL T 0 k16_2 (frOf 43 (upd (upd (upd (upd anyF 1 (.ptr 0 0 0)) 3 (.bool p16)) 4 (.bool p17)) 29 (.bool p18))) [some ⟨.box, 5, [[.int .i64 a0.state, .int .i64 a0.hold, .int .i64 a0.left, .int .i64 a0.quiet, .int .i64 a0.ups]]⟩] = some (X16_2 p16 p17 p18 a0 o) := by
  unfold m16_2 at h
  try simp -implicitDefEqProofs only [go_sem, Nat.reduceLT, Nat.reduceAdd, Nat.reduceSub, Nat.reduceMul, Nat.reduceEqDiff, Nat.reduceBEq, Nat.reduceLeDiff, Int.reduceToNat, Int.reduceLT, Int.reduceLE, Int.reduceEq, reduceCtorEq, ↓reduceIte, X16_2, k16_2]
  cases b19 : (p18 : Bool)
  · replace h := br_f b19 h
    cases h
    simp -implicitDefEqProofs only [go_sem, Nat.reduceLT, Nat.reduceAdd, Nat.reduceSub, Nat.reduceMul, Nat.reduceEqDiff, Nat.reduceBEq, Nat.reduceLeDiff, Int.reduceToNat, Int.reduceLT, Int.reduceLE, Int.reduceEq, reduceCtorEq, ↓reduceIte, X16_2, k16_2, b19]
  · replace h := br_t b19 h
    obtain ⟨r22, q20, h⟩ := bnd_some h
    have w21 := e40 a0.left 1 90 r22 q20
    try simp -implicitDefEqProofs only [go_sem, Nat.reduceLT, Nat.reduceAdd, Nat.reduceSub, Nat.reduceMul, Nat.reduceEqDiff, Nat.reduceBEq, Nat.reduceLeDiff, Int.reduceToNat, Int.reduceLT, Int.reduceLE, Int.reduceEq, reduceCtorEq, ↓reduceIte] at w21
    cases h
    simp -implicitDefEqProofs only [go_sem, Nat.reduceLT, Nat.reduceAdd, Nat.reduceSub, Nat.reduceMul, Nat.reduceEqDiff, Nat.reduceBEq, Nat.reduceLeDiff, Int.reduceToNat, Int.reduceLT, Int.reduceLE, Int.reduceEq, reduceCtorEq, ↓reduceIte, X16_2, k16_2, b19, w21]
def X16_3 (v25 : Bool) (p26 : Bool) (p27 : Bool) (a0 : Session) (o : Bool) : Ex × Fr × St :=
  (.normal, frOf 43 (upd (upd anyF 3 (.bool v25)) 4 (.bool o)), [])
theorem e16_3 (v25 : Bool) (p26 : Bool) (p27 : Bool) (a0 : Session) (o : Bool) (h : m16_3 p26 p27 a0 = some o) : evCL T 0 k16_3 (frOf 43 (upd (upd (upd (upd anyF 1 (.ptr 0 0 0)) 3 (.bool v25)) 4 (.bool p26)) 35 (.bool p27))) [some ⟨.box, 5, [[.int .i64 a0.state, .int .i64 a0.hold, .int .i64 a0.left, .int .i64 a0.quiet, .int .i64 a0.ups]]⟩] = some (X16_3 v25 p26 p27 a0 o) := by
  unfold m16_3 at h
  try simp -implicitDefEqProofs only [go_sem, Nat.reduceLT, Nat.reduceAdd, Nat.reduceSub, Nat.reduceMul, Nat.reduceEqDiff, Nat.reduceBEq, Nat.reduceLeDiff, Int.reduceToNat, Int.reduceLT, Int.reduceLE, Int.reduceEq, reduceCtorEq, ↓reduceIte, X16_3, k16_3]
  cases b28 : (p27 : Bool)
  · replace h := br_f b28 h
    cases h
    simp -implicitDefEqProofs only [go_sem, Nat.reduceLT, Nat.reduceAdd, Nat.reduceSub, Nat.reduceMul, Nat.reduceEqDiff, Nat.reduceBEq, Nat.reduceLeDiff, Int.reduceToNat, Int.reduceLT, Int.reduceLE, Int.reduceEq, reduceCtorEq, ↓reduceIte, X16_3, k16_3, b28]
  · replace h := br_t b28 h
    obtain ⟨r31, q29, h⟩ := bnd_some h
    have w30 := e40 a0.quiet 1 30 r31 q29
    try simp -implicitDefEqProofs only [go_sem, Nat.reduceLT, Nat.reduceAdd, Nat.reduceSub, Nat.reduceMul, Nat.reduceEqDiff, Nat.reduceBEq, Nat.reduceLeDiff, Int.reduceToNat, Int.reduceLT, Int.reduceLE, Int.reduceEq, reduceCtorEq, ↓reduceIte] at w30
    cases h
    simp -implicitDefEqProofs only [go_sem, Nat.reduceLT, Nat.reduceAdd, Nat.reduceSub, Nat.reduceMul, Nat.reduceEqDiff, Nat.reduceBEq, Nat.reduceLeDiff, Int.reduceToNat, Int.reduceLT, Int.reduceLE, Int.reduceEq, reduceCtorEq, ↓reduceIte, X16_3, k16_3, b28, w30]
def X16_4 (v25 : Bool) (v34 : Bool) (o : Bool) : Ex × Fr × St :=
  (.normal, frOf 43 (upd anyF 2 (.bool o)), [])
theorem e16_4 (v25 : Bool) (v34 : Bool) (o : Bool) (h : m16_4 v25 v34 = some o) : evCL T 0 k16_4 (frOf 43 (upd (upd anyF 3 (.bool v25)) 4 (.bool v34))) [] = some (X16_4 v25 v34 o) := by
  unfold m16_4 at h
  try simp -implicitDefEqProofs only [go_sem, Nat.reduceLT, Nat.reduceAdd, Nat.reduceSub, Nat.reduceMul, Nat.reduceEqDiff, Nat.reduceBEq, Nat.reduceLeDiff, Int.reduceToNat, Int.reduceLT, Int.reduceLE, Int.reduceEq, reduceCtorEq, ↓reduceIte, X16_4, k16_4]
  cases b35 : (v25 : Bool)
  · replace h := br_f b35 h
    cases h
    simp -implicitDefEqProofs only [go_sem, Nat.reduceLT, Nat.reduceAdd, Nat.reduceSub, Nat.reduceMul, Nat.reduceEqDiff, Nat.reduceBEq, Nat.reduceLeDiff, Int.reduceToNat, Int.reduceLT, Int.reduceLE, Int.reduceEq, reduceCtorEq, ↓reduceIte, X16_4, k16_4, b35]
  · replace h := br_t b35 h
    cases h
    simp -implicitDefEqProofs only [go_sem, Nat.reduceLT, Nat.reduceAdd, Nat.reduceSub, Nat.reduceMul, Nat.reduceEqDiff, Nat.reduceBEq, Nat.reduceLeDiff, Int.reduceToNat, Int.reduceLT, Int.reduceLE, Int.reduceEq, reduceCtorEq, ↓reduceIte, X16_4, k16_4, b35]
theorem call16 (args : List AV) (S : St) : evCall T (evFL T) 16 args S = lendC (evFL T 16) S (lendAll S [[0, 0, 0, 0, 0]] args) := evCall0 fn16 rfl rfl args S
theorem callz16 (args : List AV) (S : St) : evCallFz T (evFL T) 16 args S = lendZ (evFL T 16) S [[0]] (lendAll S [[0, 0, 0, 0, 0]] args) := evCallFz0 fn16 rfl rfl args S
attribute [go_sem] call16 callz16
theorem e16 (a0 : Session) (r : Bool) (h : m16 a0 = some r) : evFL T 16 [.agg [.int .i64 a0.state, .int .i64 a0.hold, .int .i64 a0.left, .int .i64 a0.quiet, .int .i64 a0.ups]] [] = some (.bool r, []) := by
  unfold m16 at h
  rw [evFL_at fn16 (Nat.le_of_ble_eq_true rfl) rfl (.inr rfl)]
  obtain ⟨v14, q12, h⟩ := bnd_some h
  have w13 := e16_1 a0 v14 q12
  simp only [X16_1] at w13
  try simp -implicitDefEqProofs only [go_sem, Nat.reduceLT, Nat.reduceAdd, Nat.reduceSub, Nat.reduceMul, Nat.reduceEqDiff, Nat.reduceBEq, Nat.reduceLeDiff, Int.reduceToNat, Int.reduceLT, Int.reduceLE, Int.reduceEq, reduceCtorEq, ↓reduceIte] at w13
  try simp -implicitDefEqProofs only [go_sem, Nat.reduceLT, Nat.reduceAdd, Nat.reduceSub, Nat.reduceMul, Nat.reduceEqDiff, Nat.reduceBEq, Nat.reduceLeDiff, Int.reduceToNat, Int.reduceLT, Int.reduceLE, Int.reduceEq, reduceCtorEq, ↓reduceIte, i16, c16, w13]
  cases b15 : (v14 : Bool)
  · replace h := br_f b15 h
    obtain ⟨v25, q23, h⟩ := bnd_some h
    have w24 := e16_2 (eqI a0.left 0) (eqI a0.quiet 0) (leI 2 a0.state) a0 v25 q23
    simp only [X16_2] at w24
    try simp -implicitDefEqProofs only [go_sem, Nat.reduceLT, Nat.reduceAdd, Nat.reduceSub, Nat.reduceMul, Nat.reduceEqDiff, Nat.reduceBEq, Nat.reduceLeDiff, Int.reduceToNat, Int.reduceLT, Int.reduceLE, Int.reduceEq, reduceCtorEq, ↓reduceIte] at w24
    obtain ⟨v34, q32, h⟩ := bnd_some h
    have w33 := e16_3 v25 (eqI a0.quiet 0) (leI 3 a0.state) a0 v34 q32
    simp only [X16_3] at w33
    try simp -implicitDefEqProofs only [go_sem, Nat.reduceLT, Nat.reduceAdd, Nat.reduceSub, Nat.reduceMul, Nat.reduceEqDiff, Nat.reduceBEq, Nat.reduceLeDiff, Int.reduceToNat, Int.reduceLT, Int.reduceLE, Int.reduceEq, reduceCtorEq, ↓reduceIte] at w33
    obtain ⟨v38, q36, h⟩ := bnd_some h
    have w37 := e16_4 v25 v34 v38 q36
    simp only [X16_4] at w37
    try simp -implicitDefEqProofs only [go_sem, Nat.reduceLT, Nat.reduceAdd, Nat.reduceSub, Nat.reduceMul, Nat.reduceEqDiff, Nat.reduceBEq, Nat.reduceLeDiff, Int.reduceToNat, Int.reduceLT, Int.reduceLE, Int.reduceEq, reduceCtorEq, ↓reduceIte] at w37
    cases h
    simp -implicitDefEqProofs only [go_sem, Nat.reduceLT, Nat.reduceAdd, Nat.reduceSub, Nat.reduceMul, Nat.reduceEqDiff, Nat.reduceBEq, Nat.reduceLeDiff, Int.reduceToNat, Int.reduceLT, Int.reduceLE, Int.reduceEq, reduceCtorEq, ↓reduceIte, i16, c16, w13, b15, w24, w33, w37]
  · replace h := br_t b15 h
    cases h
    simp -implicitDefEqProofs only [go_sem, Nat.reduceLT, Nat.reduceAdd, Nat.reduceSub, Nat.reduceMul, Nat.reduceEqDiff, Nat.reduceBEq, Nat.reduceLeDiff, Int.reduceToNat, Int.reduceLT, Int.reduceLE, Int.reduceEq, reduceCtorEq, ↓reduceIte, i16, c16, w13, b15]
-- f43 impl.isEvent
def X43_1 (a0 : Evt) (o : Bool) : Ex × Fr × St :=
  (.normal, frOf 21 (upd anyF 2 (.bool o)), [])
theorem e43_1 (a0 : Evt) (o : Bool) (h : m43_1 a0 = some o) : evCL T 0 k43_1 (frOf 21 (upd anyF 1 (.ptr 0 0 0))) [some ⟨.box, 2, [[.int .i64 a0.kind, .int .i64 a0.n]]⟩] = some (X43_1 a0 o) := by
  unfold m43_1 at h
  obtain ⟨r3, q1, h⟩ := bnd_some h
  have w2 := e40 a0.kind 1 10 r3 q1
  try simp -implicitDefEqProofs only [go_sem, Nat.reduceLT, Nat.reduceAdd, Nat.reduceSub, Nat.reduceMul, Nat.reduceEqDiff, Nat.reduceBEq, Nat.reduceLeDiff, Int.reduceToNat, Int.reduceLT, Int.reduceLE, Int.reduceEq, reduceCtorEq, ↓reduceIte] at w2
  try simp -implicitDefEqProofs only [go_sem, Nat.reduceLT, Nat.reduceAdd, Nat.reduceSub, Nat.reduceMul, Nat.reduceEqDiff, Nat.reduceBEq, Nat.reduceLeDiff, Int.reduceToNat, Int.reduceLT, Int.reduceLE, Int.reduceEq, reduceCtorEq, ↓reduceIte, X43_1, k43_1, w2]
  cases b4 : (r3 : Bool)
  · replace h := br_f b4 h
    cases h
    simp -implicitDefEqProofs only [go_sem, Nat.reduceLT, Nat.reduceAdd, Nat.reduceSub, Nat.reduceMul, Nat.reduceEqDiff, Nat.reduceBEq, Nat.reduceLeDiff, Int.reduceToNat, Int.reduceLT, Int.reduceLE, Int.reduceEq, reduceCtorEq, ↓reduceIte, X43_1, k43_1, w2, b4]
  · replace h := br_t b4 h
    try simp -implicitDefEqProofs only [go_sem, Nat.reduceLT, Nat.reduceAdd, Nat.reduceSub, Nat.reduceMul, Nat.reduceEqDiff, Nat.reduceBEq, Nat.reduceLeDiff, Int.reduceToNat, Int.reduceLT, Int.reduceLE, Int.reduceEq, reduceCtorEq, ↓reduceIte, X43_1, k43_1, w2, b4]
    cases b5 : (eqI a0.n 0 : Bool)
    · replace h := br_f b5 h
      try simp -implicitDefEqProofs only [go_sem, Nat.reduceLT, Nat.reduceAdd, Nat.reduceSub, Nat.reduceMul, Nat.reduceEqDiff, Nat.reduceBEq, Nat.reduceLeDiff, Int.reduceToNat, Int.reduceLT, Int.reduceLE, Int.reduceEq, reduceCtorEq, ↓reduceIte, X43_1, k43_1, w2, b4, b5]
      cases b6 : (eqI a0.kind 5 : Bool)
      · replace h := br_f b6 h
        cases h
        simp -implicitDefEqProofs only [go_sem, Nat.reduceLT, Nat.reduceAdd, Nat.reduceSub, Nat.reduceMul, Nat.reduceEqDiff, Nat.reduceBEq, Nat.reduceLeDiff, Int.reduceToNat, Int.reduceLT, Int.reduceLE, Int.reduceEq, reduceCtorEq, ↓reduceIte, X43_1, k43_1, w2, b4, b5, b6]
      · replace h := br_t b6 h
        obtain ⟨r9, q7, h⟩ := bnd_some h
        have w8 := e40 a0.n 0 100 r9 q7
        try simp -implicitDefEqProofs only [go_sem, Nat.reduceLT, Nat.reduceAdd, Nat.reduceSub, Nat.reduceMul, Nat.reduceEqDiff, Nat.reduceBEq, Nat.reduceLeDiff, Int.reduceToNat, Int.reduceLT, Int.reduceLE, Int.reduceEq, reduceCtorEq, ↓reduceIte] at w8
        cases h
        simp -implicitDefEqProofs only [go_sem, Nat.reduceLT, Nat.reduceAdd, Nat.reduceSub, Nat.reduceMul, Nat.reduceEqDiff, Nat.reduceBEq, Nat.reduceLeDiff, Int.reduceToNat, Int.reduceLT, Int.reduceLE, Int.reduceEq, reduceCtorEq, ↓reduceIte, X43_1, k43_1, w2, b4, b5, b6, w8]
    · replace h := br_t b5 h
      cases h
      simp -implicitDefEqProofs only [go_sem, Nat.reduceLT, Nat.reduceAdd, Nat.reduceSub, Nat.reduceMul, Nat.reduceEqDiff, Nat.reduceBEq, Nat.reduceLeDiff, Int.reduceToNat, Int.reduceLT, Int.reduceLE, Int.reduceEq, reduceCtorEq, ↓reduceIte, X43_1, k43_1, w2, b4, b5]
theorem call43 (args : List AV) (S : St) : evCall T (evFL T) 43 args S = lendC (evFL T 43) S (lendAll S [[0, 0]] args) := evCall0 fn43 rfl rfl args S
theorem callz43 (args : List AV) (S : St) : evCallFz T (evFL T) 43 args S = lendZ (evFL T 43) S [[0]] (lendAll S [[0, 0]] args) := evCallFz0 fn43 rfl rfl args S
attribute [go_sem] call43 callz43
theorem e43 (a0 : Evt) (r : Bool) (h : m43 a0 = some r) : evFL T 43 [.agg [.int .i64 a0.kind, .int .i64 a0.n]] [] = some (.bool r, []) := by
  unfold m43 at h
  rw [evFL_at fn43 (Nat.le_of_ble_eq_true rfl) rfl (.inr rfl)]
  obtain ⟨v12, q10, h⟩ := bnd_some h
  have w11 := e43_1 a0 v12 q10
  simp only [X43_1] at w11
  try simp -implicitDefEqProofs only [go_sem, Nat.reduceLT, Nat.reduceAdd, Nat.reduceSub, Nat.reduceMul, Nat.reduceEqDiff, Nat.reduceBEq, Nat.reduceLeDiff, Int.reduceToNat, Int.reduceLT, Int.reduceLE, Int.reduceEq, reduceCtorEq, ↓reduceIte] at w11
  cases h
  simp -implicitDefEqProofs only [go_sem, Nat.reduceLT, Nat.reduceAdd, Nat.reduceSub, Nat.reduceMul, Nat.reduceEqDiff, Nat.reduceBEq, Nat.reduceLeDiff, Int.reduceToNat, Int.reduceLT, Int.reduceLE, Int.reduceEq, reduceCtorEq, ↓reduceIte, i43, c43, w11]
-- f61 (impl.Session).to
theorem call61 (args : List AV) (S : St) : evCall T (evFL T) 61 args S = lendC (evFL T 61) S (lendAll S [[0, 0, 0, 0, 0], [0]] args) := evCall0 fn61 rfl rfl args S
theorem callz61 (args : List AV) (S : St) : evCallFz T (evFL T) 61 args S = lendZ (evFL T 61) S [[0, 0, 0, 0, 0]] (lendAll S [[0, 0, 0, 0, 0], [0]] args) := evCallFz0 fn61 rfl rfl args S
attribute [go_sem] call61 callz61
theorem e61 (a0 : Session) (a1 : Int) (r : Session) (h : m61 a0 a1 = some r) : evFL T 61 [.agg [.int .i64 a0.state, .int .i64 a0.hold, .int .i64 a0.left, .int .i64 a0.quiet, .int .i64 a0.ups], .int .i64 a1] [] = some (.agg [.int .i64 r.state, .int .i64 r.hold, .int .i64 r.left, .int .i64 r.quiet, .int .i64 r.ups], []) := by
  unfold m61 at h
  rw [evFL_at fn61 (Nat.le_of_ble_eq_true rfl) rfl (.inr rfl)]
  cases h
  simp -implicitDefEqProofs only [go_sem, Nat.reduceLT, Nat.reduceAdd, Nat.reduceSub, Nat.reduceMul, Nat.reduceEqDiff, Nat.reduceBEq, Nat.reduceLeDiff, Int.reduceToNat, Int.reduceLT, Int.reduceLE, Int.reduceEq, reduceCtorEq, ↓reduceIte, i61, c61]
-- f62 (impl.Session).tick
theorem call62 (args : List AV) (S : St) : evCall T (evFL T) 62 args S = lendC (evFL T 62) S (lendAll S [[0, 0, 0, 0, 0]] args) := evCall0 fn62 rfl rfl args S
theorem callz62 (args : List AV) (S : St) : evCallFz T (evFL T) 62 args S = lendZ (evFL T 62) S [[0, 0, 0, 0, 0], [1]] (lendAll S [[0, 0, 0, 0, 0]] args) := evCallFz0 fn62 rfl rfl args S
attribute [go_sem] call62 callz62
theorem e62 (a0 : Session) (r : (Session × (List Int))) (h : m62 a0 = some r) : evFL T 62 [.agg [.int .i64 a0.state, .int .i64 a0.hold, .int .i64 a0.left, .int .i64 a0.quiet, .int .i64 a0.ups]] [] = some (.tup [.agg [.int .i64 r.1.state, .int .i64 r.1.hold, .int .i64 r.1.left, .int .i64 r.1.quiet, .int .i64 r.1.ups], .sl 0 0 r.2.length], [some ⟨.arr, 1, r.2.map encInt⟩]) := by
  unfold m62 at h
  rw [evFL_at fn62 (Nat.le_of_ble_eq_true rfl) rfl (.inr rfl)]
  try simp -implicitDefEqProofs only [go_sem, Nat.reduceLT, Nat.reduceAdd, Nat.reduceSub, Nat.reduceMul, Nat.reduceEqDiff, Nat.reduceBEq, Nat.reduceLeDiff, Int.reduceToNat, Int.reduceLT, Int.reduceLE, Int.reduceEq, reduceCtorEq, ↓reduceIte, i62, c62]
  cases b1 : (eqI (wsub .i64 a0.left 1) 0 : Bool)
  · replace h := br_f b1 h
    try simp -implicitDefEqProofs only [go_sem, Nat.reduceLT, Nat.reduceAdd, Nat.reduceSub, Nat.reduceMul, Nat.reduceEqDiff, Nat.reduceBEq, Nat.reduceLeDiff, Int.reduceToNat, Int.reduceLT, Int.reduceLE, Int.reduceEq, reduceCtorEq, ↓reduceIte, i62, c62, b1]
    cases b5 : (eqI a0.state 2 : Bool)
    · replace h := br_f b5 h
      try simp -implicitDefEqProofs only [go_sem, Nat.reduceLT, Nat.reduceAdd, Nat.reduceSub, Nat.reduceMul, Nat.reduceEqDiff, Nat.reduceBEq, Nat.reduceLeDiff, Int.reduceToNat, Int.reduceLT, Int.reduceLE, Int.reduceEq, reduceCtorEq, ↓reduceIte, i62, c62, b1, b5]
      cases b6 : (eqI (wsub .i64 a0.quiet 1) 0 : Bool)
      · replace h := br_f b6 h
        cases h
        simp -implicitDefEqProofs only [go_sem, Nat.reduceLT, Nat.reduceAdd, Nat.reduceSub, Nat.reduceMul, Nat.reduceEqDiff, Nat.reduceBEq, Nat.reduceLeDiff, Int.reduceToNat, Int.reduceLT, Int.reduceLE, Int.reduceEq, reduceCtorEq, ↓reduceIte, i62, c62, b1, b5, b6]
      · replace h := br_t b6 h
        cases h
        simp -implicitDefEqProofs only [go_sem, Nat.reduceLT, Nat.reduceAdd, Nat.reduceSub, Nat.reduceMul, Nat.reduceEqDiff, Nat.reduceBEq, Nat.reduceLeDiff, Int.reduceToNat, Int.reduceLT, Int.reduceLE, Int.reduceEq, reduceCtorEq, ↓reduceIte, i62, c62, b1, b5, b6]
    · replace h := br_t b5 h
      cases h
      simp -implicitDefEqProofs only [go_sem, Nat.reduceLT, Nat.reduceAdd, Nat.reduceSub, Nat.reduceMul, Nat.reduceEqDiff, Nat.reduceBEq, Nat.reduceLeDiff, Int.reduceToNat, Int.reduceLT, Int.reduceLE, Int.reduceEq, reduceCtorEq, ↓reduceIte, i62, c62, b1, b5]
  · replace h := br_t b1 h
    obtain ⟨r4, q2, h⟩ := bnd_some h
    have w3 := e61 (⟨a0.state, a0.hold, wsub .i64 a0.left 1, a0.quiet, a0.ups⟩ : Session) 0 r4 q2
    try simp -implicitDefEqProofs only [go_sem, Nat.reduceLT, Nat.reduceAdd, Nat.reduceSub, Nat.reduceMul, Nat.reduceEqDiff, Nat.reduceBEq, Nat.reduceLeDiff, Int.reduceToNat, Int.reduceLT, Int.reduceLE, Int.reduceEq, reduceCtorEq, ↓reduceIte] at w3
    cases h
    simp -implicitDefEqProofs only [go_sem, Nat.reduceLT, Nat.reduceAdd, Nat.reduceSub, Nat.reduceMul, Nat.reduceEqDiff, Nat.reduceBEq, Nat.reduceLeDiff, Int.reduceToNat, Int.reduceLT, Int.reduceLE, Int.reduceEq, reduceCtorEq, ↓reduceIte, i62, c62, b1, w3]
-- f44 (impl.Session).step
def X44_1 (p1 : Bool) (a0 : Session) (a1 : Evt) (o : Bool) : Ex × Fr × St :=
  (.normal, frOf 142 (upd (upd (upd (upd (upd anyF 2 (.ptr 0 0 0)) 3 (.ptr 1 0 0)) 4 (.ptr 2 0 0)) 6 (.bool p1)) 12 (.bool o)), [some ⟨.box, 5, [[.int .i64 a0.state, .int .i64 a0.hold, .int .i64 a0.left, .int .i64 a0.quiet, .int .i64 a0.ups]]⟩, some ⟨.box, 2, [[.int .i64 a1.kind, .int .i64 a1.n]]⟩, some ⟨.box, 5, [[.int .i64 0, .int .i64 0, .int .i64 0, .int .i64 0, .int .i64 0]]⟩])
theorem e44_1 (p1 : Bool) (a0 : Session) (a1 : Evt) (o : Bool) (h : m44_1 a0 a1 = some o) : evCL T 0 k44_1 (frOf 142 (upd (upd (upd (upd anyF 2 (.ptr 0 0 0)) 3 (.ptr 1 0 0)) 4 (.ptr 2 0 0)) 6 (.bool p1))) [some ⟨.box, 5, [[.int .i64 a0.state, .int .i64 a0.hold, .int .i64 a0.left, .int .i64 a0.quiet, .int .i64 a0.ups]]⟩, some ⟨.box, 2, [[.int .i64 a1.kind, .int .i64 a1.n]]⟩, some ⟨.box, 5, [[.int .i64 0, .int .i64 0, .int .i64 0, .int .i64 0, .int .i64 0]]⟩] = some (X44_1 p1 a0 a1 o) := by
  unfold m44_1 at h
  try simp -implicitDefEqProofs only [go_sem, Nat.reduceLT, Nat.reduceAdd, Nat.reduceSub, Nat.reduceMul, Nat.reduceEqDiff, Nat.reduceBEq, Nat.reduceLeDiff, Int.reduceToNat, Int.reduceLT, Int.reduceLE, Int.reduceEq, reduceCtorEq, ↓reduceIte, X44_1, k44_1]
  cases b2 : (eqI a1.kind 1 : Bool)
  · replace h := br_f b2 h
    cases h
    simp -implicitDefEqProofs only [go_sem, Nat.reduceLT, Nat.reduceAdd, Nat.reduceSub, Nat.reduceMul, Nat.reduceEqDiff, Nat.reduceBEq, Nat.reduceLeDiff, Int.reduceToNat, Int.reduceLT, Int.reduceLE, Int.reduceEq, reduceCtorEq, ↓reduceIte, X44_1, k44_1, b2]
  · replace h := br_t b2 h
    cases h
    simp -implicitDefEqProofs only [go_sem, Nat.reduceLT, Nat.reduceAdd, Nat.reduceSub, Nat.reduceMul, Nat.reduceEqDiff, Nat.reduceBEq, Nat.reduceLeDiff, Int.reduceToNat, Int.reduceLT, Int.reduceLE, Int.reduceEq, reduceCtorEq, ↓reduceIte, X44_1, k44_1, b2]
def X44_2 (p10 : Bool) (a0 : Session) (a1 : Evt) (o : Bool) : Ex × Fr × St :=
  (.normal, frOf 142 (upd (upd (upd (upd (upd anyF 2 (.ptr 0 0 0)) 3 (.ptr 1 0 0)) 4 (.ptr 2 0 0)) 6 (.bool p10)) 23 (.bool o)), [some ⟨.box, 5, [[.int .i64 a0.state, .int .i64 a0.hold, .int .i64 a0.left, .int .i64 a0.quiet, .int .i64 a0.ups]]⟩, some ⟨.box, 2, [[.int .i64 a1.kind, .int .i64 a1.n]]⟩, some ⟨.box, 5, [[.int .i64 0, .int .i64 0, .int .i64 0, .int .i64 0, .int .i64 0]]⟩])
theorem e44_2 (p10 : Bool) (a0 : Session) (a1 : Evt) (o : Bool) (h : m44_2 p10 a1 = some o) : evCL T 0 k44_2 (frOf 142 (upd (upd (upd (upd anyF 2 (.ptr 0 0 0)) 3 (.ptr 1 0 0)) 4 (.ptr 2 0 0)) 6 (.bool p10))) [some ⟨.box, 5, [[.int .i64 a0.state, .int .i64 a0.hold, .int .i64 a0.left, .int .i64 a0.quiet, .int .i64 a0.ups]]⟩, some ⟨.box, 2, [[.int .i64 a1.kind, .int .i64 a1.n]]⟩, some ⟨.box, 5, [[.int .i64 0, .int .i64 0, .int .i64 0, .int .i64 0, .int .i64 0]]⟩] = some (X44_2 p10 a0 a1 o) := by
  unfold m44_2 at h
  try simp -implicitDefEqProofs only [go_sem, Nat.reduceLT, Nat.reduceAdd, Nat.reduceSub, Nat.reduceMul, Nat.reduceEqDiff, Nat.reduceBEq, Nat.reduceLeDiff, Int.reduceToNat, Int.reduceLT, Int.reduceLE, Int.reduceEq, reduceCtorEq, ↓reduceIte, X44_2, k44_2]
  cases b11 : (eqI a1.kind 2 : Bool)
  · replace h := br_f b11 h
    cases h
    simp -implicitDefEqProofs only [go_sem, Nat.reduceLT, Nat.reduceAdd, Nat.reduceSub, Nat.reduceMul, Nat.reduceEqDiff, Nat.reduceBEq, Nat.reduceLeDiff, Int.reduceToNat, Int.reduceLT, Int.reduceLE, Int.reduceEq, reduceCtorEq, ↓reduceIte, X44_2, k44_2, b11]
  · replace h := br_t b11 h
    cases h
    simp -implicitDefEqProofs only [go_sem, Nat.reduceLT, Nat.reduceAdd, Nat.reduceSub, Nat.reduceMul, Nat.reduceEqDiff, Nat.reduceBEq, Nat.reduceLeDiff, Int.reduceToNat, Int.reduceLT, Int.reduceLE, Int.reduceEq, reduceCtorEq, ↓reduceIte, X44_2, k44_2, b11]
def X44_3 (p19 : Bool) (a0 : Session) (a1 : Evt) (o : Bool) : Ex × Fr × St :=
  (.normal, frOf 142 (upd (upd (upd (upd (upd anyF 2 (.ptr 0 0 0)) 3 (.ptr 1 0 0)) 4 (.ptr 2 0 0)) 6 (.bool p19)) 33 (.bool o)), [some ⟨.box, 5, [[.int .i64 a0.state, .int .i64 a0.hold, .int .i64 a0.left, .int .i64 a0.quiet, .int .i64 a0.ups]]⟩, some ⟨.box, 2, [[.int .i64 a1.kind, .int .i64 a1.n]]⟩, some ⟨.box, 5, [[.int .i64 0, .int .i64 0, .int .i64 0, .int .i64 0, .int .i64 0]]⟩])
theorem e44_3 (p19 : Bool) (a0 : Session) (a1 : Evt) (o : Bool) (h : m44_3 a0 a1 = some o) : evCL T 0 k44_3 (frOf 142 (upd (upd (upd (upd anyF 2 (.ptr 0 0 0)) 3 (.ptr 1 0 0)) 4 (.ptr 2 0 0)) 6 (.bool p19))) [some ⟨.box, 5, [[.int .i64 a0.state, .int .i64 a0.hold, .int .i64 a0.left, .int .i64 a0.quiet, .int .i64 a0.ups]]⟩, some ⟨.box, 2, [[.int .i64 a1.kind, .int .i64 a1.n]]⟩, some ⟨.box, 5, [[.int .i64 0, .int .i64 0, .int .i64 0, .int .i64 0, .int .i64 0]]⟩] = some (X44_3 p19 a0 a1 o) := by
  unfold m44_3 at h
  try simp -implicitDefEqProofs only [go_sem, Nat.reduceLT, Nat.reduceAdd, Nat.reduceSub, Nat.reduceMul, Nat.reduceEqDiff, Nat.reduceBEq, Nat.reduceLeDiff, Int.reduceToNat, Int.reduceLT, Int.reduceLE, Int.reduceEq, reduceCtorEq, ↓reduceIte, X44_3, k44_3]
  cases b20 : (eqI a1.kind 3 : Bool)
  · replace h := br_f b20 h
    cases h
    simp -implicitDefEqProofs only [go_sem, Nat.reduceLT, Nat.reduceAdd, Nat.reduceSub, Nat.reduceMul, Nat.reduceEqDiff, Nat.reduceBEq, Nat.reduceLeDiff, Int.reduceToNat, Int.reduceLT, Int.reduceLE, Int.reduceEq, reduceCtorEq, ↓reduceIte, X44_3, k44_3, b20]
  · replace h := br_t b20 h
    cases h
    simp -implicitDefEqProofs only [go_sem, Nat.reduceLT, Nat.reduceAdd, Nat.reduceSub, Nat.reduceMul, Nat.reduceEqDiff, Nat.reduceBEq, Nat.reduceLeDiff, Int.reduceToNat, Int.reduceLT, Int.reduceLE, Int.reduceEq, reduceCtorEq, ↓reduceIte, X44_3, k44_3, b20]
def X44_4 (a0 : Session) (a1 : Evt) (o : Bool) : Ex × Fr × St :=
  (.normal, frOf 142 (upd (upd (upd (upd anyF 2 (.ptr 0 0 0)) 3 (.ptr 1 0 0)) 4 (.ptr 2 0 0)) 57 (.bool o)), [some ⟨.box, 5, [[.int .i64 a0.state, .int .i64 a0.hold, .int .i64 a0.left, .int .i64 a0.quiet, .int .i64 a0.ups]]⟩, some ⟨.box, 2, [[.int .i64 a1.kind, .int .i64 a1.n]]⟩, some ⟨.box, 5, [[.int .i64 0, .int .i64 0, .int .i64 0, .int .i64 0, .int .i64 0]]⟩])
theorem e44_4 (a0 : Session) (a1 : Evt) (o : Bool) (h : m44_4 a0 a1 = some o) : evCL T 0 k44_4 (frOf 142 (upd (upd (upd anyF 2 (.ptr 0 0 0)) 3 (.ptr 1 0 0)) 4 (.ptr 2 0 0))) [some ⟨.box, 5, [[.int .i64 a0.state, .int .i64 a0.hold, .int .i64 a0.left, .int .i64 a0.quiet, .int .i64 a0.ups]]⟩, some ⟨.box, 2, [[.int .i64 a1.kind, .int .i64 a1.n]]⟩, some ⟨.box, 5, [[.int .i64 0, .int .i64 0, .int .i64 0, .int .i64 0, .int .i64 0]]⟩] = some (X44_4 a0 a1 o) := by
  unfold m44_4 at h
  try simp -implicitDefEqProofs only [go_sem, Nat.reduceLT, Nat.reduceAdd, Nat.reduceSub, Nat.reduceMul, Nat.reduceEqDiff, Nat.reduceBEq, Nat.reduceLeDiff, Int.reduceToNat, Int.reduceLT, Int.reduceLE, Int.reduceEq, reduceCtorEq, ↓reduceIte, X44_4, k44_4]
  cases b33 : (eqI a1.kind 5 : Bool)
  · replace h := br_f b33 h
    cases h
    simp -implicitDefEqProofs only [go_sem, Nat.reduceLT, Nat.reduceAdd, Nat.reduceSub, Nat.reduceMul, Nat.reduceEqDiff, Nat.reduceBEq, Nat.reduceLeDiff, Int.reduceToNat, Int.reduceLT, Int.reduceLE, Int.reduceEq, reduceCtorEq, ↓reduceIte, X44_4, k44_4, b33]
  · replace h := br_t b33 h
    try simp -implicitDefEqProofs only [go_sem, Nat.reduceLT, Nat.reduceAdd, Nat.reduceSub, Nat.reduceMul, Nat.reduceEqDiff, Nat.reduceBEq, Nat.reduceLeDiff, Int.reduceToNat, Int.reduceLT, Int.reduceLE, Int.reduceEq, reduceCtorEq, ↓reduceIte, X44_4, k44_4, b33]
    cases b34 : (eqI a0.state 2 : Bool)
    · replace h := br_f b34 h
      cases h
      simp -implicitDefEqProofs only [go_sem, Nat.reduceLT, Nat.reduceAdd, Nat.reduceSub, Nat.reduceMul, Nat.reduceEqDiff, Nat.reduceBEq, Nat.reduceLeDiff, Int.reduceToNat, Int.reduceLT, Int.reduceLE, Int.reduceEq, reduceCtorEq, ↓reduceIte, X44_4, k44_4, b33, b34]
    · replace h := br_t b34 h
      cases h
      simp -implicitDefEqProofs only [go_sem, Nat.reduceLT, Nat.reduceAdd, Nat.reduceSub, Nat.reduceMul, Nat.reduceEqDiff, Nat.reduceBEq, Nat.reduceLeDiff, Int.reduceToNat, Int.reduceLT, Int.reduceLE, Int.reduceEq, reduceCtorEq, ↓reduceIte, X44_4, k44_4, b33, b34]
def X44_5 (a0 : Session) (a1 : Evt) (o : Bool) : Ex × Fr × St :=
  (.normal, frOf 142 (upd (upd (upd (upd anyF 2 (.ptr 0 0 0)) 3 (.ptr 1 0 0)) 4 (.ptr 2 0 0)) 88 (.bool o)), [some ⟨.box, 5, [[.int .i64 a0.state, .int .i64 a0.hold, .int .i64 a0.left, .int .i64 a0.quiet, .int .i64 a0.ups]]⟩, some ⟨.box, 2, [[.int .i64 a1.kind, .int .i64 a1.n]]⟩, some ⟨.box, 5, [[.int .i64 0, .int .i64 0, .int .i64 0, .int .i64 0, .int .i64 0]]⟩])
theorem e44_5 (a0 : Session) (a1 : Evt) (o : Bool) (h : m44_5 a0 a1 = some o) : evCL T 0 k44_5 (frOf 142 (upd (upd (upd anyF 2 (.ptr 0 0 0)) 3 (.ptr 1 0 0)) 4 (.ptr 2 0 0))) [some ⟨.box, 5, [[.int .i64 a0.state, .int .i64 a0.hold, .int .i64 a0.left, .int .i64 a0.quiet, .int .i64 a0.ups]]⟩, some ⟨.box, 2, [[.int .i64 a1.kind, .int .i64 a1.n]]⟩, some ⟨.box, 5, [[.int .i64 0, .int .i64 0, .int .i64 0, .int .i64 0, .int .i64 0]]⟩] = some (X44_5 a0 a1 o) := by
  unfold m44_5 at h
  try simp -implicitDefEqProofs only [go_sem, Nat.reduceLT, Nat.reduceAdd, Nat.reduceSub, Nat.reduceMul, Nat.reduceEqDiff, Nat.reduceBEq, Nat.reduceLeDiff, Int.reduceToNat, Int.reduceLT, Int.reduceLE, Int.reduceEq, reduceCtorEq, ↓reduceIte, X44_5, k44_5]
  cases b42 : (eqI a1.kind 7 : Bool)
  · replace h := br_f b42 h
    cases h
    simp -implicitDefEqProofs only [go_sem, Nat.reduceLT, Nat.reduceAdd, Nat.reduceSub, Nat.reduceMul, Nat.reduceEqDiff, Nat.reduceBEq, Nat.reduceLeDiff, Int.reduceToNat, Int.reduceLT, Int.reduceLE, Int.reduceEq, reduceCtorEq, ↓reduceIte, X44_5, k44_5, b42]
  · replace h := br_t b42 h
    cases h
    simp -implicitDefEqProofs only [go_sem, Nat.reduceLT, Nat.reduceAdd, Nat.reduceSub, Nat.reduceMul, Nat.reduceEqDiff, Nat.reduceBEq, Nat.reduceLeDiff, Int.reduceToNat, Int.reduceLT, Int.reduceLE, Int.reduceEq, reduceCtorEq, ↓reduceIte, X44_5, k44_5, b42]
def X44_6 (a0 : Session) (a1 : Evt) (o : Bool) : Ex × Fr × St :=
  (.normal, frOf 142 (upd (upd (upd (upd anyF 2 (.ptr 0 0 0)) 3 (.ptr 1 0 0)) 4 (.ptr 2 0 0)) 107 (.bool o)), [some ⟨.box, 5, [[.int .i64 a0.state, .int .i64 a0.hold, .int .i64 a0.left, .int .i64 a0.quiet, .int .i64 a0.ups]]⟩, some ⟨.box, 2, [[.int .i64 a1.kind, .int .i64 a1.n]]⟩, some ⟨.box, 5, [[.int .i64 0, .int .i64 0, .int .i64 0, .int .i64 0, .int .i64 0]]⟩])
theorem e44_6 (a0 : Session) (a1 : Evt) (o : Bool) (h : m44_6 a0 a1 = some o) : evCL T 0 k44_6 (frOf 142 (upd (upd (upd anyF 2 (.ptr 0 0 0)) 3 (.ptr 1 0 0)) 4 (.ptr 2 0 0))) [some ⟨.box, 5, [[.int .i64 a0.state, .int .i64 a0.hold, .int .i64 a0.left, .int .i64 a0.quiet, .int .i64 a0.ups]]⟩, some ⟨.box, 2, [[.int .i64 a1.kind, .int .i64 a1.n]]⟩, some ⟨.box, 5, [[.int .i64 0, .int .i64 0, .int .i64 0, .int .i64 0, .int .i64 0]]⟩] = some (X44_6 a0 a1 o) := by
  unfold m44_6 at h
  try simp -implicitDefEqProofs only [go_sem, Nat.reduceLT, Nat.reduceAdd, Nat.reduceSub, Nat.reduceMul, Nat.reduceEqDiff, Nat.reduceBEq, Nat.reduceLeDiff, Int.reduceToNat, Int.reduceLT, Int.reduceLE, Int.reduceEq, reduceCtorEq, ↓reduceIte, X44_6, k44_6]
  cases b47 : (eqI a1.kind 7 : Bool)
  · replace h := br_f b47 h
    try simp -implicitDefEqProofs only [go_sem, Nat.reduceLT, Nat.reduceAdd, Nat.reduceSub, Nat.reduceMul, Nat.reduceEqDiff, Nat.reduceBEq, Nat.reduceLeDiff, Int.reduceToNat, Int.reduceLT, Int.reduceLE, Int.reduceEq, reduceCtorEq, ↓reduceIte, X44_6, k44_6, b47]
    cases b48 : (eqI a1.kind 8 : Bool)
    · replace h := br_f b48 h
      cases h
      simp -implicitDefEqProofs only [go_sem, Nat.reduceLT, Nat.reduceAdd, Nat.reduceSub, Nat.reduceMul, Nat.reduceEqDiff, Nat.reduceBEq, Nat.reduceLeDiff, Int.reduceToNat, Int.reduceLT, Int.reduceLE, Int.reduceEq, reduceCtorEq, ↓reduceIte, X44_6, k44_6, b47, b48]
    · replace h := br_t b48 h
      cases h
      simp -implicitDefEqProofs only [go_sem, Nat.reduceLT, Nat.reduceAdd, Nat.reduceSub, Nat.reduceMul, Nat.reduceEqDiff, Nat.reduceBEq, Nat.reduceLeDiff, Int.reduceToNat, Int.reduceLT, Int.reduceLE, Int.reduceEq, reduceCtorEq, ↓reduceIte, X44_6, k44_6, b47, b48]
  · replace h := br_t b47 h
    cases h
    simp -implicitDefEqProofs only [go_sem, Nat.reduceLT, Nat.reduceAdd, Nat.reduceSub, Nat.reduceMul, Nat.reduceEqDiff, Nat.reduceBEq, Nat.reduceLeDiff, Int.reduceToNat, Int.reduceLT, Int.reduceLE, Int.reduceEq, reduceCtorEq, ↓reduceIte, X44_6, k44_6, b47]
theorem call44 (args : List AV) (S : St) : evCall T (evFL T) 44 args S = lendC (evFL T 44) S (lendAll S [[0, 0, 0, 0, 0], [0, 0]] args) := evCall0 fn44 rfl rfl args S
theorem callz44 (args : List AV) (S : St) : evCallFz T (evFL T) 44 args S = lendZ (evFL T 44) S [[0, 0, 0, 0, 0], [1]] (lendAll S [[0, 0, 0, 0, 0], [0, 0]] args) := evCallFz0 fn44 rfl rfl args S
attribute [go_sem] call44 callz44
theorem e44 (a0 : Session) (a1 : Evt) (r : (Session × (List Int))) (h : m44 a0 a1 = some r) : evFL T 44 [.agg [.int .i64 a0.state, .int .i64 a0.hold, .int .i64 a0.left, .int .i64 a0.quiet, .int .i64 a0.ups], .agg [.int .i64 a1.kind, .int .i64 a1.n]] [] = some (.tup [.agg [.int .i64 r.1.state, .int .i64 r.1.hold, .int .i64 r.1.left, .int .i64 r.1.quiet, .int .i64 r.1.ups], .sl 0 0 r.2.length], [some ⟨.arr, 1, r.2.map encInt⟩]) := by
  unfold m44 at h
  rw [evFL_at fn44 (Nat.le_of_ble_eq_true rfl) rfl (.inr rfl)]
  obtain ⟨v5, q3, h⟩ := bnd_some h
  have w4 := e44_1 (leI 2 a0.state) a0 a1 v5 q3
  simp only [X44_1] at w4
  try simp -implicitDefEqProofs only [go_sem, Nat.reduceLT, Nat.reduceAdd, Nat.reduceSub, Nat.reduceMul, Nat.reduceEqDiff, Nat.reduceBEq, Nat.reduceLeDiff, Int.reduceToNat, Int.reduceLT, Int.reduceLE, Int.reduceEq, reduceCtorEq, ↓reduceIte] at w4
  try simp -implicitDefEqProofs only [go_sem, Nat.reduceLT, Nat.reduceAdd, Nat.reduceSub, Nat.reduceMul, Nat.reduceEqDiff, Nat.reduceBEq, Nat.reduceLeDiff, Int.reduceToNat, Int.reduceLT, Int.reduceLE, Int.reduceEq, reduceCtorEq, ↓reduceIte, i44, c44, w4]
  cases b6 : (v5 : Bool)
  · replace h := br_f b6 h
    obtain ⟨v14, q12, h⟩ := bnd_some h
    have w13 := e44_2 (leI 2 a0.state) a0 a1 v14 q12
    simp only [X44_2] at w13
    try simp -implicitDefEqProofs only [go_sem, Nat.reduceLT, Nat.reduceAdd, Nat.reduceSub, Nat.reduceMul, Nat.reduceEqDiff, Nat.reduceBEq, Nat.reduceLeDiff, Int.reduceToNat, Int.reduceLT, Int.reduceLE, Int.reduceEq, reduceCtorEq, ↓reduceIte] at w13
    try simp -implicitDefEqProofs only [go_sem, Nat.reduceLT, Nat.reduceAdd, Nat.reduceSub, Nat.reduceMul, Nat.reduceEqDiff, Nat.reduceBEq, Nat.reduceLeDiff, Int.reduceToNat, Int.reduceLT, Int.reduceLE, Int.reduceEq, reduceCtorEq, ↓reduceIte, i44, c44, w4, b6, w13]
    cases b15 : (v14 : Bool)
    · replace h := br_f b15 h
      obtain ⟨v23, q21, h⟩ := bnd_some h
      have w22 := e44_3 (leI 2 a0.state) a0 a1 v23 q21
      simp only [X44_3] at w22
      try simp -implicitDefEqProofs only [go_sem, Nat.reduceLT, Nat.reduceAdd, Nat.reduceSub, Nat.reduceMul, Nat.reduceEqDiff, Nat.reduceBEq, Nat.reduceLeDiff, Int.reduceToNat, Int.reduceLT, Int.reduceLE, Int.reduceEq, reduceCtorEq, ↓reduceIte] at w22
      try simp -implicitDefEqProofs only [go_sem, Nat.reduceLT, Nat.reduceAdd, Nat.reduceSub, Nat.reduceMul, Nat.reduceEqDiff, Nat.reduceBEq, Nat.reduceLeDiff, Int.reduceToNat, Int.reduceLT, Int.reduceLE, Int.reduceEq, reduceCtorEq, ↓reduceIte, i44, c44, w4, b6, w13, b15, w22]
      cases b24 : (v23 : Bool)
      · replace h := br_f b24 h
        try simp -implicitDefEqProofs only [go_sem, Nat.reduceLT, Nat.reduceAdd, Nat.reduceSub, Nat.reduceMul, Nat.reduceEqDiff, Nat.reduceBEq, Nat.reduceLeDiff, Int.reduceToNat, Int.reduceLT, Int.reduceLE, Int.reduceEq, reduceCtorEq, ↓reduceIte, i44, c44, w4, b6, w13, b15, w22, b24]
        cases b28 : (leI 2 a0.state : Bool)
        · replace h := br_f b28 h
          cases h
          simp -implicitDefEqProofs only [go_sem, Nat.reduceLT, Nat.reduceAdd, Nat.reduceSub, Nat.reduceMul, Nat.reduceEqDiff, Nat.reduceBEq, Nat.reduceLeDiff, Int.reduceToNat, Int.reduceLT, Int.reduceLE, Int.reduceEq, reduceCtorEq, ↓reduceIte, i44, c44, w4, b6, w13, b15, w22, b24, b28]
        · replace h := br_t b28 h
          try simp -implicitDefEqProofs only [go_sem, Nat.reduceLT, Nat.reduceAdd, Nat.reduceSub, Nat.reduceMul, Nat.reduceEqDiff, Nat.reduceBEq, Nat.reduceLeDiff, Int.reduceToNat, Int.reduceLT, Int.reduceLE, Int.reduceEq, reduceCtorEq, ↓reduceIte, i44, c44, w4, b6, w13, b15, w22, b24, b28]
          cases b29 : (eqI a1.kind 4 : Bool)
          · replace h := br_f b29 h
            obtain ⟨v37, q35, h⟩ := bnd_some h
            have w36 := e44_4 a0 a1 v37 q35
            simp only [X44_4] at w36
            try simp -implicitDefEqProofs only [go_sem, Nat.reduceLT, Nat.reduceAdd, Nat.reduceSub, Nat.reduceMul, Nat.reduceEqDiff, Nat.reduceBEq, Nat.reduceLeDiff, Int.reduceToNat, Int.reduceLT, Int.reduceLE, Int.reduceEq, reduceCtorEq, ↓reduceIte] at w36
            try simp -implicitDefEqProofs only [go_sem, Nat.reduceLT, Nat.reduceAdd, Nat.reduceSub, Nat.reduceMul, Nat.reduceEqDiff, Nat.reduceBEq, Nat.reduceLeDiff, Int.reduceToNat, Int.reduceLT, Int.reduceLE, Int.reduceEq, reduceCtorEq, ↓reduceIte, i44, c44, w4, b6, w13, b15, w22, b24, b28, b29, w36]
            cases b38 : (v37 : Bool)
            · replace h := br_f b38 h
              obtain ⟨v45, q43, h⟩ := bnd_some h
              have w44 := e44_5 a0 a1 v45 q43
              simp only [X44_5] at w44
              try simp -implicitDefEqProofs only [go_sem, Nat.reduceLT, Nat.reduceAdd, Nat.reduceSub, Nat.reduceMul, Nat.reduceEqDiff, Nat.reduceBEq, Nat.reduceLeDiff, Int.reduceToNat, Int.reduceLT, Int.reduceLE, Int.reduceEq, reduceCtorEq, ↓reduceIte] at w44
              try simp -implicitDefEqProofs only [go_sem, Nat.reduceLT, Nat.reduceAdd, Nat.reduceSub, Nat.reduceMul, Nat.reduceEqDiff, Nat.reduceBEq, Nat.reduceLeDiff, Int.reduceToNat, Int.reduceLT, Int.reduceLE, Int.reduceEq, reduceCtorEq, ↓reduceIte, i44, c44, w4, b6, w13, b15, w22, b24, b28, b29, w36, b38, w44]
              cases b46 : (v45 : Bool)
              · replace h := br_f b46 h
                obtain ⟨v51, q49, h⟩ := bnd_some h
                have w50 := e44_6 a0 a1 v51 q49
                simp only [X44_6] at w50
                try simp -implicitDefEqProofs only [go_sem, Nat.reduceLT, Nat.reduceAdd, Nat.reduceSub, Nat.reduceMul, Nat.reduceEqDiff, Nat.reduceBEq, Nat.reduceLeDiff, Int.reduceToNat, Int.reduceLT, Int.reduceLE, Int.reduceEq, reduceCtorEq, ↓reduceIte] at w50
                try simp -implicitDefEqProofs only [go_sem, Nat.reduceLT, Nat.reduceAdd, Nat.reduceSub, Nat.reduceMul, Nat.reduceEqDiff, Nat.reduceBEq, Nat.reduceLeDiff, Int.reduceToNat, Int.reduceLT, Int.reduceLE, Int.reduceEq, reduceCtorEq, ↓reduceIte, i44, c44, w4, b6, w13, b15, w22, b24, b28, b29, w36, b38, w44, b46, w50]
                cases b52 : (v51 : Bool)
                · replace h := br_f b52 h
                  try simp -implicitDefEqProofs only [go_sem, Nat.reduceLT, Nat.reduceAdd, Nat.reduceSub, Nat.reduceMul, Nat.reduceEqDiff, Nat.reduceBEq, Nat.reduceLeDiff, Int.reduceToNat, Int.reduceLT, Int.reduceLE, Int.reduceEq, reduceCtorEq, ↓reduceIte, i44, c44, w4, b6, w13, b15, w22, b24, b28, b29, w36, b38, w44, b46, w50, b52]
                  cases b53 : (eqI a1.kind 9 : Bool)
                  · replace h := br_f b53 h
                    try simp -implicitDefEqProofs only [go_sem, Nat.reduceLT, Nat.reduceAdd, Nat.reduceSub, Nat.reduceMul, Nat.reduceEqDiff, Nat.reduceBEq, Nat.reduceLeDiff, Int.reduceToNat, Int.reduceLT, Int.reduceLE, Int.reduceEq, reduceCtorEq, ↓reduceIte, i44, c44, w4, b6, w13, b15, w22, b24, b28, b29, w36, b38, w44, b46, w50, b52, b53]
                    cases b57 : (eqI a1.kind 10 : Bool)
                    · replace h := br_f b57 h
                      obtain ⟨r64, q62, h⟩ := bnd_some h
                      have w63 := e61 a0 0 r64 q62
                      try simp -implicitDefEqProofs only [go_sem, Nat.reduceLT, Nat.reduceAdd, Nat.reduceSub, Nat.reduceMul, Nat.reduceEqDiff, Nat.reduceBEq, Nat.reduceLeDiff, Int.reduceToNat, Int.reduceLT, Int.reduceLE, Int.reduceEq, reduceCtorEq, ↓reduceIte] at w63
                      cases h
                      simp -implicitDefEqProofs only [go_sem, Nat.reduceLT, Nat.reduceAdd, Nat.reduceSub, Nat.reduceMul, Nat.reduceEqDiff, Nat.reduceBEq, Nat.reduceLeDiff, Int.reduceToNat, Int.reduceLT, Int.reduceLE, Int.reduceEq, reduceCtorEq, ↓reduceIte, i44, c44, w4, b6, w13, b15, w22, b24, b28, b29, w36, b38, w44, b46, w50, b52, b53, b57, w63]
                    · replace h := br_t b57 h
                      obtain ⟨⟨r60, r61⟩, q58, h⟩ := bnd_some h
                      replace h := sel2_some h
                      have w59 := e62 a0 (r60, r61) q58
                      try simp -implicitDefEqProofs only [go_sem, Nat.reduceLT, Nat.reduceAdd, Nat.reduceSub, Nat.reduceMul, Nat.reduceEqDiff, Nat.reduceBEq, Nat.reduceLeDiff, Int.reduceToNat, Int.reduceLT, Int.reduceLE, Int.reduceEq, reduceCtorEq, ↓reduceIte] at w59
                      cases h
                      simp -implicitDefEqProofs only [go_sem, Nat.reduceLT, Nat.reduceAdd, Nat.reduceSub, Nat.reduceMul, Nat.reduceEqDiff, Nat.reduceBEq, Nat.reduceLeDiff, Int.reduceToNat, Int.reduceLT, Int.reduceLE, Int.reduceEq, reduceCtorEq, ↓reduceIte, i44, c44, w4, b6, w13, b15, w22, b24, b28, b29, w36, b38, w44, b46, w50, b52, b53, b57, w59]
                  · replace h := br_t b53 h
                    obtain ⟨r56, q54, h⟩ := bnd_some h
                    have w55 := e61 a0 0 r56 q54
                    try simp -implicitDefEqProofs only [go_sem, Nat.reduceLT, Nat.reduceAdd, Nat.reduceSub, Nat.reduceMul, Nat.reduceEqDiff, Nat.reduceBEq, Nat.reduceLeDiff, Int.reduceToNat, Int.reduceLT, Int.reduceLE, Int.reduceEq, reduceCtorEq, ↓reduceIte] at w55
                    cases h
                    simp -implicitDefEqProofs only [go_sem, Nat.reduceLT, Nat.reduceAdd, Nat.reduceSub, Nat.reduceMul, Nat.reduceEqDiff, Nat.reduceBEq, Nat.reduceLeDiff, Int.reduceToNat, Int.reduceLT, Int.reduceLE, Int.reduceEq, reduceCtorEq, ↓reduceIte, i44, c44, w4, b6, w13, b15, w22, b24, b28, b29, w36, b38, w44, b46, w50, b52, b53, w55]
                · replace h := br_t b52 h
                  cases h
                  simp -implicitDefEqProofs only [go_sem, Nat.reduceLT, Nat.reduceAdd, Nat.reduceSub, Nat.reduceMul, Nat.reduceEqDiff, Nat.reduceBEq, Nat.reduceLeDiff, Int.reduceToNat, Int.reduceLT, Int.reduceLE, Int.reduceEq, reduceCtorEq, ↓reduceIte, i44, c44, w4, b6, w13, b15, w22, b24, b28, b29, w36, b38, w44, b46, w50, b52]
              · replace h := br_t b46 h
                cases h
                simp -implicitDefEqProofs only [go_sem, Nat.reduceLT, Nat.reduceAdd, Nat.reduceSub, Nat.reduceMul, Nat.reduceEqDiff, Nat.reduceBEq, Nat.reduceLeDiff, Int.reduceToNat, Int.reduceLT, Int.reduceLE, Int.reduceEq, reduceCtorEq, ↓reduceIte, i44, c44, w4, b6, w13, b15, w22, b24, b28, b29, w36, b38, w44, b46]
            · replace h := br_t b38 h
              obtain ⟨r41, q39, h⟩ := bnd_some h
              have w40 := e61 a0 3 r41 q39
              try simp -implicitDefEqProofs only [go_sem, Nat.reduceLT, Nat.reduceAdd, Nat.reduceSub, Nat.reduceMul, Nat.reduceEqDiff, Nat.reduceBEq, Nat.reduceLeDiff, Int.reduceToNat, Int.reduceLT, Int.reduceLE, Int.reduceEq, reduceCtorEq, ↓reduceIte] at w40
              cases h
              simp -implicitDefEqProofs only [go_sem, Nat.reduceLT, Nat.reduceAdd, Nat.reduceSub, Nat.reduceMul, Nat.reduceEqDiff, Nat.reduceBEq, Nat.reduceLeDiff, Int.reduceToNat, Int.reduceLT, Int.reduceLE, Int.reduceEq, reduceCtorEq, ↓reduceIte, i44, c44, w4, b6, w13, b15, w22, b24, b28, b29, w36, b38, w40]
          · replace h := br_t b29 h
            obtain ⟨r32, q30, h⟩ := bnd_some h
            have w31 := e61 a0 1 r32 q30
            try simp -implicitDefEqProofs only [go_sem, Nat.reduceLT, Nat.reduceAdd, Nat.reduceSub, Nat.reduceMul, Nat.reduceEqDiff, Nat.reduceBEq, Nat.reduceLeDiff, Int.reduceToNat, Int.reduceLT, Int.reduceLE, Int.reduceEq, reduceCtorEq, ↓reduceIte] at w31
            cases h
            simp -implicitDefEqProofs only [go_sem, Nat.reduceLT, Nat.reduceAdd, Nat.reduceSub, Nat.reduceMul, Nat.reduceEqDiff, Nat.reduceBEq, Nat.reduceLeDiff, Int.reduceToNat, Int.reduceLT, Int.reduceLE, Int.reduceEq, reduceCtorEq, ↓reduceIte, i44, c44, w4, b6, w13, b15, w22, b24, b28, b29, w31]
      · replace h := br_t b24 h
        obtain ⟨r27, q25, h⟩ := bnd_some h
        have w26 := e61 a0 2 r27 q25
        try simp -implicitDefEqProofs only [go_sem, Nat.reduceLT, Nat.reduceAdd, Nat.reduceSub, Nat.reduceMul, Nat.reduceEqDiff, Nat.reduceBEq, Nat.reduceLeDiff, Int.reduceToNat, Int.reduceLT, Int.reduceLE, Int.reduceEq, reduceCtorEq, ↓reduceIte] at w26
        cases h
        simp -implicitDefEqProofs only [go_sem, Nat.reduceLT, Nat.reduceAdd, Nat.reduceSub, Nat.reduceMul, Nat.reduceEqDiff, Nat.reduceBEq, Nat.reduceLeDiff, Int.reduceToNat, Int.reduceLT, Int.reduceLE, Int.reduceEq, reduceCtorEq, ↓reduceIte, i44, c44, w4, b6, w13, b15, w22, b24, w26]
    · replace h := br_t b15 h
      obtain ⟨r18, q16, h⟩ := bnd_some h
      have w17 := e61 a0 0 r18 q16
      try simp -implicitDefEqProofs only [go_sem, Nat.reduceLT, Nat.reduceAdd, Nat.reduceSub, Nat.reduceMul, Nat.reduceEqDiff, Nat.reduceBEq, Nat.reduceLeDiff, Int.reduceToNat, Int.reduceLT, Int.reduceLE, Int.reduceEq, reduceCtorEq, ↓reduceIte] at w17
      cases h
      simp -implicitDefEqProofs only [go_sem, Nat.reduceLT, Nat.reduceAdd, Nat.reduceSub, Nat.reduceMul, Nat.reduceEqDiff, Nat.reduceBEq, Nat.reduceLeDiff, Int.reduceToNat, Int.reduceLT, Int.reduceLE, Int.reduceEq, reduceCtorEq, ↓reduceIte, i44, c44, w4, b6, w13, b15, w17]
  · replace h := br_t b6 h
    obtain ⟨r9, q7, h⟩ := bnd_some h
    have w8 := e61 a0 1 r9 q7
    try simp -implicitDefEqProofs only [go_sem, Nat.reduceLT, Nat.reduceAdd, Nat.reduceSub, Nat.reduceMul, Nat.reduceEqDiff, Nat.reduceBEq, Nat.reduceLeDiff, Int.reduceToNat, Int.reduceLT, Int.reduceLE, Int.reduceEq, reduceCtorEq, ↓reduceIte] at w8
    cases h
    simp -implicitDefEqProofs only [go_sem, Nat.reduceLT, Nat.reduceAdd, Nat.reduceSub, Nat.reduceMul, Nat.reduceEqDiff, Nat.reduceBEq, Nat.reduceLeDiff, Int.reduceToNat, Int.reduceLT, Int.reduceLE, Int.reduceEq, reduceCtorEq, ↓reduceIte, i44, c44, w4, b6, w8]
-- f21 impl.StepSession
def X21_1 (a0 : Session) (a1 : Evt) (o : Bool) : Ex × Fr × St :=
  (.normal, frOf 26 (upd (upd (upd (upd anyF 2 (.ptr 0 0 0)) 3 (.ptr 1 0 0)) 4 (.ptr 2 0 0)) 16 (.bool o)), [some ⟨.box, 5, [[.int .i64 a0.state, .int .i64 a0.hold, .int .i64 a0.left, .int .i64 a0.quiet, .int .i64 a0.ups]]⟩, some ⟨.box, 2, [[.int .i64 a1.kind, .int .i64 a1.n]]⟩, some ⟨.box, 5, [[.int .i64 0, .int .i64 0, .int .i64 0, .int .i64 0, .int .i64 0]]⟩])
theorem e21_1 (a0 : Session) (a1 : Evt) (o : Bool) (h : m21_1 a0 a1 = some o) : evCL T 0 k21_1 (frOf 26 (upd (upd (upd anyF 2 (.ptr 0 0 0)) 3 (.ptr 1 0 0)) 4 (.ptr 2 0 0))) [some ⟨.box, 5, [[.int .i64 a0.state, .int .i64 a0.hold, .int .i64 a0.left, .int .i64 a0.quiet, .int .i64 a0.ups]]⟩, some ⟨.box, 2, [[.int .i64 a1.kind, .int .i64 a1.n]]⟩, some ⟨.box, 5, [[.int .i64 0, .int .i64 0, .int .i64 0, .int .i64 0, .int .i64 0]]⟩] = some (X21_1 a0 a1 o) := by
  unfold m21_1 at h
  obtain ⟨r3, q1, h⟩ := bnd_some h
  have w2 := e16 a0 r3 q1
  try simp -implicitDefEqProofs only [go_sem, Nat.reduceLT, Nat.reduceAdd, Nat.reduceSub, Nat.reduceMul, Nat.reduceEqDiff, Nat.reduceBEq, Nat.reduceLeDiff, Int.reduceToNat, Int.reduceLT, Int.reduceLE, Int.reduceEq, reduceCtorEq, ↓reduceIte] at w2
  try simp -implicitDefEqProofs only [go_sem, Nat.reduceLT, Nat.reduceAdd, Nat.reduceSub, Nat.reduceMul, Nat.reduceEqDiff, Nat.reduceBEq, Nat.reduceLeDiff, Int.reduceToNat, Int.reduceLT, Int.reduceLE, Int.reduceEq, reduceCtorEq, ↓reduceIte, X21_1, k21_1, w2]
  cases b4 : (r3 : Bool)
  · replace h := br_f b4 h
    cases h
    simp -implicitDefEqProofs only [go_sem, Nat.reduceLT, Nat.reduceAdd, Nat.reduceSub, Nat.reduceMul, Nat.reduceEqDiff, Nat.reduceBEq, Nat.reduceLeDiff, Int.reduceToNat, Int.reduceLT, Int.reduceLE, Int.reduceEq, reduceCtorEq, ↓reduceIte, X21_1, k21_1, w2, b4]
  · replace h := br_t b4 h
    obtain ⟨r7, q5, h⟩ := bnd_some h
    have w6 := e43 a1 r7 q5
    try simp -implicitDefEqProofs only [go_sem, Nat.reduceLT, Nat.reduceAdd, Nat.reduceSub, Nat.reduceMul, Nat.reduceEqDiff, Nat.reduceBEq, Nat.reduceLeDiff, Int.reduceToNat, Int.reduceLT, Int.reduceLE, Int.reduceEq, reduceCtorEq, ↓reduceIte] at w6
    cases h
    simp -implicitDefEqProofs only [go_sem, Nat.reduceLT, Nat.reduceAdd, Nat.reduceSub, Nat.reduceMul, Nat.reduceEqDiff, Nat.reduceBEq, Nat.reduceLeDiff, Int.reduceToNat, Int.reduceLT, Int.reduceLE, Int.reduceEq, reduceCtorEq, ↓reduceIte, X21_1, k21_1, w2, b4, w6]
theorem call21 (args : List AV) (S : St) : evCall T (evFL T) 21 args S = lendC (evFL T 21) S (lendAll S [[0, 0, 0, 0, 0], [0, 0]] args) := evCall0 fn21 rfl rfl args S
theorem callz21 (args : List AV) (S : St) : evCallFz T (evFL T) 21 args S = lendZ (evFL T 21) S [[0, 0, 0, 0, 0], [1], [0]] (lendAll S [[0, 0, 0, 0, 0], [0, 0]] args) := evCallFz0 fn21 rfl rfl args S
attribute [go_sem] call21 callz21
theorem e21 (a0 : Session) (a1 : Evt) (r : (Session × (List Int) × Bool)) (h : m21 a0 a1 = some r) : evFL T 21 [.agg [.int .i64 a0.state, .int .i64 a0.hold, .int .i64 a0.left, .int .i64 a0.quiet, .int .i64 a0.ups], .agg [.int .i64 a1.kind, .int .i64 a1.n]] [] = some (.tup [.agg [.int .i64 r.1.state, .int .i64 r.1.hold, .int .i64 r.1.left, .int .i64 r.1.quiet, .int .i64 r.1.ups], .sl 0 0 r.2.1.length, .bool r.2.2], [some ⟨.arr, 1, r.2.1.map encInt⟩]) := by
  unfold m21 at h
  rw [evFL_at fn21 (Nat.le_of_ble_eq_true rfl) rfl (.inr rfl)]
  obtain ⟨v10, q8, h⟩ := bnd_some h
  have w9 := e21_1 a0 a1 v10 q8
  simp only [X21_1] at w9
  try simp -implicitDefEqProofs only [go_sem, Nat.reduceLT, Nat.reduceAdd, Nat.reduceSub, Nat.reduceMul, Nat.reduceEqDiff, Nat.reduceBEq, Nat.reduceLeDiff, Int.reduceToNat, Int.reduceLT, Int.reduceLE, Int.reduceEq, reduceCtorEq, ↓reduceIte] at w9
  try simp -implicitDefEqProofs only [go_sem, Nat.reduceLT, Nat.reduceAdd, Nat.reduceSub, Nat.reduceMul, Nat.reduceEqDiff, Nat.reduceBEq, Nat.reduceLeDiff, Int.reduceToNat, Int.reduceLT, Int.reduceLE, Int.reduceEq, reduceCtorEq, ↓reduceIte, i21, c21, w9]
  cases b11 : (v10 : Bool)
  · replace h := br_f b11 h
    obtain ⟨⟨r14, r15⟩, q12, h⟩ := bnd_some h
    replace h := sel2_some h
    have w13 := e44 a0 a1 (r14, r15) q12
    try simp -implicitDefEqProofs only [go_sem, Nat.reduceLT, Nat.reduceAdd, Nat.reduceSub, Nat.reduceMul, Nat.reduceEqDiff, Nat.reduceBEq, Nat.reduceLeDiff, Int.reduceToNat, Int.reduceLT, Int.reduceLE, Int.reduceEq, reduceCtorEq, ↓reduceIte] at w13
    cases h
    simp -implicitDefEqProofs only [go_sem, Nat.reduceLT, Nat.reduceAdd, Nat.reduceSub, Nat.reduceMul, Nat.reduceEqDiff, Nat.reduceBEq, Nat.reduceLeDiff, Int.reduceToNat, Int.reduceLT, Int.reduceLE, Int.reduceEq, reduceCtorEq, ↓reduceIte, i21, c21, w9, b11, w13]
  · replace h := br_t b11 h
    cases h
    simp -implicitDefEqProofs only [go_sem, Nat.reduceLT, Nat.reduceAdd, Nat.reduceSub, Nat.reduceMul, Nat.reduceEqDiff, Nat.reduceBEq, Nat.reduceLeDiff, Int.reduceToNat, Int.reduceLT, Int.reduceLE, Int.reduceEq, reduceCtorEq, ↓reduceIte, i21, c21, w9, b11]
-- f13 laws.eqSession
theorem call13 (args : List AV) (S : St) : evCall T (evFL T) 13 args S = lendC (evFL T 13) S (lendAll S [[0, 0, 0, 0, 0], [0, 0, 0, 0, 0]] args) := evCall0 fn13 rfl rfl args S
theorem callz13 (args : List AV) (S : St) : evCallFz T (evFL T) 13 args S = lendZ (evFL T 13) S [[0]] (lendAll S [[0, 0, 0, 0, 0], [0, 0, 0, 0, 0]] args) := evCallFz0 fn13 rfl rfl args S
attribute [go_sem] call13 callz13
theorem e13 (a0 : Session) (a1 : Session) (r : Bool) (h : m13 a0 a1 = some r) : evFL T 13 [.agg [.int .i64 a0.state, .int .i64 a0.hold, .int .i64 a0.left, .int .i64 a0.quiet, .int .i64 a0.ups], .agg [.int .i64 a1.state, .int .i64 a1.hold, .int .i64 a1.left, .int .i64 a1.quiet, .int .i64 a1.ups]] [] = some (.bool r, []) := by
  unfold m13 at h
  rw [evFL_at fn13 (Nat.le_of_ble_eq_true rfl) rfl (.inr rfl)]
  try simp -implicitDefEqProofs only [go_sem, Nat.reduceLT, Nat.reduceAdd, Nat.reduceSub, Nat.reduceMul, Nat.reduceEqDiff, Nat.reduceBEq, Nat.reduceLeDiff, Int.reduceToNat, Int.reduceLT, Int.reduceLE, Int.reduceEq, reduceCtorEq, ↓reduceIte, i13, c13]
  cases b1 : (eqI a0.state a1.state : Bool)
  · replace h := br_f b1 h
    cases h
    simp -implicitDefEqProofs only [go_sem, Nat.reduceLT, Nat.reduceAdd, Nat.reduceSub, Nat.reduceMul, Nat.reduceEqDiff, Nat.reduceBEq, Nat.reduceLeDiff, Int.reduceToNat, Int.reduceLT, Int.reduceLE, Int.reduceEq, reduceCtorEq, ↓reduceIte, i13, c13, b1]
  · replace h := br_t b1 h
    try simp -implicitDefEqProofs only [go_sem, Nat.reduceLT, Nat.reduceAdd, Nat.reduceSub, Nat.reduceMul, Nat.reduceEqDiff, Nat.reduceBEq, Nat.reduceLeDiff, Int.reduceToNat, Int.reduceLT, Int.reduceLE, Int.reduceEq, reduceCtorEq, ↓reduceIte, i13, c13, b1]
    cases b2 : (eqI a0.hold a1.hold : Bool)
    · replace h := br_f b2 h
      cases h
      simp -implicitDefEqProofs only [go_sem, Nat.reduceLT, Nat.reduceAdd, Nat.reduceSub, Nat.reduceMul, Nat.reduceEqDiff, Nat.reduceBEq, Nat.reduceLeDiff, Int.reduceToNat, Int.reduceLT, Int.reduceLE, Int.reduceEq, reduceCtorEq, ↓reduceIte, i13, c13, b1, b2]
    · replace h := br_t b2 h
      try simp -implicitDefEqProofs only [go_sem, Nat.reduceLT, Nat.reduceAdd, Nat.reduceSub, Nat.reduceMul, Nat.reduceEqDiff, Nat.reduceBEq, Nat.reduceLeDiff, Int.reduceToNat, Int.reduceLT, Int.reduceLE, Int.reduceEq, reduceCtorEq, ↓reduceIte, i13, c13, b1, b2]
      cases b3 : (eqI a0.left a1.left : Bool)
      · replace h := br_f b3 h
        cases h
        simp -implicitDefEqProofs only [go_sem, Nat.reduceLT, Nat.reduceAdd, Nat.reduceSub, Nat.reduceMul, Nat.reduceEqDiff, Nat.reduceBEq, Nat.reduceLeDiff, Int.reduceToNat, Int.reduceLT, Int.reduceLE, Int.reduceEq, reduceCtorEq, ↓reduceIte, i13, c13, b1, b2, b3]
      · replace h := br_t b3 h
        try simp -implicitDefEqProofs only [go_sem, Nat.reduceLT, Nat.reduceAdd, Nat.reduceSub, Nat.reduceMul, Nat.reduceEqDiff, Nat.reduceBEq, Nat.reduceLeDiff, Int.reduceToNat, Int.reduceLT, Int.reduceLE, Int.reduceEq, reduceCtorEq, ↓reduceIte, i13, c13, b1, b2, b3]
        cases b4 : (eqI a0.quiet a1.quiet : Bool)
        · replace h := br_f b4 h
          cases h
          simp -implicitDefEqProofs only [go_sem, Nat.reduceLT, Nat.reduceAdd, Nat.reduceSub, Nat.reduceMul, Nat.reduceEqDiff, Nat.reduceBEq, Nat.reduceLeDiff, Int.reduceToNat, Int.reduceLT, Int.reduceLE, Int.reduceEq, reduceCtorEq, ↓reduceIte, i13, c13, b1, b2, b3, b4]
        · replace h := br_t b4 h
          try simp -implicitDefEqProofs only [go_sem, Nat.reduceLT, Nat.reduceAdd, Nat.reduceSub, Nat.reduceMul, Nat.reduceEqDiff, Nat.reduceBEq, Nat.reduceLeDiff, Int.reduceToNat, Int.reduceLT, Int.reduceLE, Int.reduceEq, reduceCtorEq, ↓reduceIte, i13, c13, b1, b2, b3, b4]
          cases b5 : (eqI a0.ups a1.ups : Bool)
          · replace h := br_f b5 h
            cases h
            simp -implicitDefEqProofs only [go_sem, Nat.reduceLT, Nat.reduceAdd, Nat.reduceSub, Nat.reduceMul, Nat.reduceEqDiff, Nat.reduceBEq, Nat.reduceLeDiff, Int.reduceToNat, Int.reduceLT, Int.reduceLE, Int.reduceEq, reduceCtorEq, ↓reduceIte, i13, c13, b1, b2, b3, b4, b5]
          · replace h := br_t b5 h
            cases h
            simp -implicitDefEqProofs only [go_sem, Nat.reduceLT, Nat.reduceAdd, Nat.reduceSub, Nat.reduceMul, Nat.reduceEqDiff, Nat.reduceBEq, Nat.reduceLeDiff, Int.reduceToNat, Int.reduceLT, Int.reduceLE, Int.reduceEq, reduceCtorEq, ↓reduceIte, i13, c13, b1, b2, b3, b4, b5]
-- f22 laws.eqIntS
def X22_1 (a0 : (List Int)) (a1 : (List Int)) (o : (Unit ⊕ Unit)) : Ex × Fr × St :=
  match o with
  | .inl o => (.exit 0, frOf 26 (anyF), [])
  | .inr o => (.ret, frOf 26 (upd anyF 4 (.bool false)), [])
def E22_1 (a0 : (List Int)) (a1 : (List Int)) (s : Int) : Fr × St := (frOf 26 (upd (upd (upd anyF 0 (.ts .imm 1 (a0.map encInt))) 1 (.ts .imm 1 (a1.map encInt))) 5 (.int .i64 s)), [])
theorem b22_1 (a0 : (List Int)) (a1 : (List Int)) (s : Int) (o : Ctl Int (Unit ⊕ Unit)) (h : m22_1b a0 a1 s = some o) : evCL T 0 k22_1b (E22_1 a0 a1 s).1 (E22_1 a0 a1 s).2 = some (ctlX (E22_1 a0 a1) (X22_1 a0 a1) o) := by
  unfold m22_1b at h
  revert h
  generalize s = s14
  intro h
  try simp -implicitDefEqProofs only [go_sem, Nat.reduceLT, Nat.reduceAdd, Nat.reduceSub, Nat.reduceMul, Nat.reduceEqDiff, Nat.reduceBEq, Nat.reduceLeDiff, Int.reduceToNat, Int.reduceLT, Int.reduceLE, Int.reduceEq, reduceCtorEq, ↓reduceIte, E22_1, X22_1, k22_1b]
  cases b15 : (ltI s14 (↑a0.length : Int) : Bool)
  · replace h := br_f b15 h
    cases h
    simp -implicitDefEqProofs only [go_sem, Nat.reduceLT, Nat.reduceAdd, Nat.reduceSub, Nat.reduceMul, Nat.reduceEqDiff, Nat.reduceBEq, Nat.reduceLeDiff, Int.reduceToNat, Int.reduceLT, Int.reduceLE, Int.reduceEq, reduceCtorEq, ↓reduceIte, E22_1, X22_1, k22_1b, b15]
  · replace h := br_t b15 h
    obtain ⟨x16, q17, h⟩ := bnd_some h
    obtain ⟨g18, g19, g20⟩ := idx_row encInt q17
    try simp -implicitDefEqProofs only [go_sem, Nat.reduceLT, Nat.reduceAdd, Nat.reduceSub, Nat.reduceMul, Nat.reduceEqDiff, Nat.reduceBEq, Nat.reduceLeDiff, Int.reduceToNat, Int.reduceLT, Int.reduceLE, Int.reduceEq, reduceCtorEq, ↓reduceIte] at g19
    try simp -implicitDefEqProofs only [go_sem, Nat.reduceLT, Nat.reduceAdd, Nat.reduceSub, Nat.reduceMul, Nat.reduceEqDiff, Nat.reduceBEq, Nat.reduceLeDiff, Int.reduceToNat, Int.reduceLT, Int.reduceLE, Int.reduceEq, reduceCtorEq, ↓reduceIte] at g20
    obtain ⟨x21, q22, h⟩ := bnd_some h
    obtain ⟨g23, g24, g25⟩ := idx_row encInt q22
    try simp -implicitDefEqProofs only [go_sem, Nat.reduceLT, Nat.reduceAdd, Nat.reduceSub, Nat.reduceMul, Nat.reduceEqDiff, Nat.reduceBEq, Nat.reduceLeDiff, Int.reduceToNat, Int.reduceLT, Int.reduceLE, Int.reduceEq, reduceCtorEq, ↓reduceIte] at g24
    try simp -implicitDefEqProofs only [go_sem, Nat.reduceLT, Nat.reduceAdd, Nat.reduceSub, Nat.reduceMul, Nat.reduceEqDiff, Nat.reduceBEq, Nat.reduceLeDiff, Int.reduceToNat, Int.reduceLT, Int.reduceLE, Int.reduceEq, reduceCtorEq, ↓reduceIte] at g25
    try simp -implicitDefEqProofs only [go_sem, Nat.reduceLT, Nat.reduceAdd, Nat.reduceSub, Nat.reduceMul, Nat.reduceEqDiff, Nat.reduceBEq, Nat.reduceLeDiff, Int.reduceToNat, Int.reduceLT, Int.reduceLE, Int.reduceEq, reduceCtorEq, ↓reduceIte, E22_1, X22_1, k22_1b, b15, g18, g19, g20, g23, g24, g25]
    cases b26 : (eqI x16 x21 : Bool)
    · replace h := br_f b26 h
      cases h
      simp -implicitDefEqProofs only [go_sem, Nat.reduceLT, Nat.reduceAdd, Nat.reduceSub, Nat.reduceMul, Nat.reduceEqDiff, Nat.reduceBEq, Nat.reduceLeDiff, Int.reduceToNat, Int.reduceLT, Int.reduceLE, Int.reduceEq, reduceCtorEq, ↓reduceIte, E22_1, X22_1, k22_1b, b15, g18, g19, g20, g23, g24, g25, b26]
    · replace h := br_t b26 h
      cases h
      simp -implicitDefEqProofs only [go_sem, Nat.reduceLT, Nat.reduceAdd, Nat.reduceSub, Nat.reduceMul, Nat.reduceEqDiff, Nat.reduceBEq, Nat.reduceLeDiff, Int.reduceToNat, Int.reduceLT, Int.reduceLE, Int.reduceEq, reduceCtorEq, ↓reduceIte, E22_1, X22_1, k22_1b, b15, g18, g19, g20, g23, g24, g25, b26]
theorem e22_1 (a0 : (List Int)) (a1 : (List Int)) (s : Int) (o : (Unit ⊕ Unit)) (h : loopP (m22_1b a0 a1) s = some o) : evCL T 0 (.loop k22_1b) (E22_1 a0 a1 s).1 (E22_1 a0 a1 s).2 = some (X22_1 a0 a1 o) :=
  loop_walk (E := E22_1 a0 a1) (X := X22_1 a0 a1) (by intro b; rcases b with b | b <;> (simp only [X22_1]; nofun)) (b22_1 a0 a1) s o h
theorem call22 (args : List AV) (S : St) : evCall T (evFL T) 22 args S = lendC (evFL T 22) S (lendAll S [[1], [1]] args) := evCall0 fn22 rfl rfl args S
theorem callz22 (args : List AV) (S : St) : evCallFz T (evFL T) 22 args S = lendZ (evFL T 22) S [[0]] (lendAll S [[1], [1]] args) := evCallFz0 fn22 rfl rfl args S
attribute [go_sem] call22 callz22
theorem e22 (a0 : (List Int)) (a1 : (List Int)) (r : Bool) (h : m22 a0 a1 = some r) : evFL T 22 [.ts .imm 1 (a0.map encInt), .ts .imm 1 (a1.map encInt)] [] = some (.bool r, []) := by
  unfold m22 at h
  rw [evFL_at fn22 (Nat.le_of_ble_eq_true rfl) rfl (.inr rfl)]
  try simp -implicitDefEqProofs only [go_sem, Nat.reduceLT, Nat.reduceAdd, Nat.reduceSub, Nat.reduceMul, Nat.reduceEqDiff, Nat.reduceBEq, Nat.reduceLeDiff, Int.reduceToNat, Int.reduceLT, Int.reduceLE, Int.reduceEq, reduceCtorEq, ↓reduceIte, i22, c22]
  cases b1 : (eqI (↑a0.length : Int) (↑a1.length : Int) : Bool)
  · replace h := br_f b1 h
    cases h
    simp -implicitDefEqProofs only [go_sem, Nat.reduceLT, Nat.reduceAdd, Nat.reduceSub, Nat.reduceMul, Nat.reduceEqDiff, Nat.reduceBEq, Nat.reduceLeDiff, Int.reduceToNat, Int.reduceLT, Int.reduceLE, Int.reduceEq, reduceCtorEq, ↓reduceIte, i22, c22, b1]
  · replace h := br_t b1 h
    try simp -implicitDefEqProofs only [go_sem, Nat.reduceLT, Nat.reduceAdd, Nat.reduceSub, Nat.reduceMul, Nat.reduceEqDiff, Nat.reduceBEq, Nat.reduceLeDiff, Int.reduceToNat, Int.reduceLT, Int.reduceLE, Int.reduceEq, reduceCtorEq, ↓reduceIte, i22, c22, b1]
    obtain ⟨o, q27, h⟩ := bnd_some h
    rcases o with ⟨⟩ | ⟨⟩
    · replace h := selS_l h
      have w28 := e22_1 a0 a1 0 (.inl ()) q27
      simp only [E22_1, X22_1] at w28
      try simp -implicitDefEqProofs only [go_sem, Nat.reduceLT, Nat.reduceAdd, Nat.reduceSub, Nat.reduceMul, Nat.reduceEqDiff, Nat.reduceBEq, Nat.reduceLeDiff, Int.reduceToNat, Int.reduceLT, Int.reduceLE, Int.reduceEq, reduceCtorEq, ↓reduceIte] at w28
      cases h
      simp -implicitDefEqProofs only [go_sem, Nat.reduceLT, Nat.reduceAdd, Nat.reduceSub, Nat.reduceMul, Nat.reduceEqDiff, Nat.reduceBEq, Nat.reduceLeDiff, Int.reduceToNat, Int.reduceLT, Int.reduceLE, Int.reduceEq, reduceCtorEq, ↓reduceIte, i22, c22, b1, w28]
    · replace h := selS_r h
      have w28 := e22_1 a0 a1 0 (.inr ()) q27
      simp only [E22_1, X22_1] at w28
      try simp -implicitDefEqProofs only [go_sem, Nat.reduceLT, Nat.reduceAdd, Nat.reduceSub, Nat.reduceMul, Nat.reduceEqDiff, Nat.reduceBEq, Nat.reduceLeDiff, Int.reduceToNat, Int.reduceLT, Int.reduceLE, Int.reduceEq, reduceCtorEq, ↓reduceIte] at w28
      cases h
      simp -implicitDefEqProofs only [go_sem, Nat.reduceLT, Nat.reduceAdd, Nat.reduceSub, Nat.reduceMul, Nat.reduceEqDiff, Nat.reduceBEq, Nat.reduceLeDiff, Int.reduceToNat, Int.reduceLT, Int.reduceLE, Int.reduceEq, reduceCtorEq, ↓reduceIte, i22, c22, b1, w28]
-- f23 laws.markIntS
def X23_1 (o : (Int × List Int)) : Ex × Fr × St :=
  (.exit 0, frOf 19 (upd anyF 1 (.int .i64 o.1)), [some ⟨.arr, 1, o.2.map encInt⟩])
def E23_1 (s : (Int × Int × List Int)) : Fr × St := (frOf 19 (upd (upd (upd anyF 0 (.sl 0 0 s.2.2.length)) 1 (.int .i64 s.1)) 5 (.int .i64 s.2.1)), [some ⟨.arr, 1, s.2.2.map encInt⟩])
theorem b23_1 (s : (Int × Int × List Int)) (o : Ctl (Int × Int × List Int) (Int × List Int)) (h : m23_1b s = some o) : evCL T 1 k23_1b (E23_1 s).1 (E23_1 s).2 = some (ctlX (E23_1) (X23_1) o) := by
  unfold m23_1b at h
  obtain ⟨s7, s8, s9⟩ := s
  replace h := sel3_some h
  try simp -implicitDefEqProofs only [go_sem, Nat.reduceLT, Nat.reduceAdd, Nat.reduceSub, Nat.reduceMul, Nat.reduceEqDiff, Nat.reduceBEq, Nat.reduceLeDiff, Int.reduceToNat, Int.reduceLT, Int.reduceLE, Int.reduceEq, reduceCtorEq, ↓reduceIte, E23_1, X23_1, k23_1b]
  cases b10 : (ltI s8 (↑s9.length : Int) : Bool)
  · replace h := br_f b10 h
    cases h
    simp -implicitDefEqProofs only [go_sem, Nat.reduceLT, Nat.reduceAdd, Nat.reduceSub, Nat.reduceMul, Nat.reduceEqDiff, Nat.reduceBEq, Nat.reduceLeDiff, Int.reduceToNat, Int.reduceLT, Int.reduceLE, Int.reduceEq, reduceCtorEq, ↓reduceIte, E23_1, X23_1, k23_1b, b10]
  · replace h := br_t b10 h
    obtain ⟨x11, q12, h⟩ := bnd_some h
    obtain ⟨g13, g14, g15⟩ := idx_row encInt q12
    try simp -implicitDefEqProofs only [go_sem, Nat.reduceLT, Nat.reduceAdd, Nat.reduceSub, Nat.reduceMul, Nat.reduceEqDiff, Nat.reduceBEq, Nat.reduceLeDiff, Int.reduceToNat, Int.reduceLT, Int.reduceLE, Int.reduceEq, reduceCtorEq, ↓reduceIte] at g14
    try simp -implicitDefEqProofs only [go_sem, Nat.reduceLT, Nat.reduceAdd, Nat.reduceSub, Nat.reduceMul, Nat.reduceEqDiff, Nat.reduceBEq, Nat.reduceLeDiff, Int.reduceToNat, Int.reduceLT, Int.reduceLE, Int.reduceEq, reduceCtorEq, ↓reduceIte] at g15
    cases h
    simp -implicitDefEqProofs only [go_sem, Nat.reduceLT, Nat.reduceAdd, Nat.reduceSub, Nat.reduceMul, Nat.reduceEqDiff, Nat.reduceBEq, Nat.reduceLeDiff, Int.reduceToNat, Int.reduceLT, Int.reduceLE, Int.reduceEq, reduceCtorEq, ↓reduceIte, E23_1, X23_1, k23_1b, b10, g13, g14, g15]
theorem e23_1 (s : (Int × Int × List Int)) (o : (Int × List Int)) (h : loopP (m23_1b) s = some o) : evCL T 1 (.loop k23_1b) (E23_1 s).1 (E23_1 s).2 = some (X23_1 o) :=
  loop_walk (E := E23_1) (X := X23_1) (by intro b; (simp only [X23_1]; nofun)) (b23_1) s o h
theorem call23 (args : List AV) (S : St) : evCall T (evFL T) 23 args S = c3A true (evFL T 23) (rawAll S [[1], [0]] args) := evCall3_a fn23 rfl args S
attribute [go_sem] call23
theorem e23 (a0 : (List Int)) (a1 : Int) (r : (Int × List Int)) (h : m23 a0 a1 = some r) : evFL T 23 [.sl 0 0 a0.length, .int .i64 a1] [some ⟨.arr, 1, a0.map encInt⟩] = some (.int .i64 r.1, [some ⟨.arr, 1, r.2.map encInt⟩]) := by
  unfold m23 at h
  rw [evFL_at fn23 (Nat.le_of_ble_eq_true rfl) rfl (.inl rfl)]
  obtain ⟨⟨v18, v19⟩, q16, h⟩ := bnd_some h
  replace h := sel2_some h
  have w17 := e23_1 (a1, 0, a0) (v18, v19) q16
  simp only [E23_1, X23_1] at w17
  try simp -implicitDefEqProofs only [go_sem, Nat.reduceLT, Nat.reduceAdd, Nat.reduceSub, Nat.reduceMul, Nat.reduceEqDiff, Nat.reduceBEq, Nat.reduceLeDiff, Int.reduceToNat, Int.reduceLT, Int.reduceLE, Int.reduceEq, reduceCtorEq, ↓reduceIte] at w17
  cases h
  simp -implicitDefEqProofs only [go_sem, Nat.reduceLT, Nat.reduceAdd, Nat.reduceSub, Nat.reduceMul, Nat.reduceEqDiff, Nat.reduceBEq, Nat.reduceLeDiff, Int.reduceToNat, Int.reduceLT, Int.reduceLE, Int.reduceEq, reduceCtorEq, ↓reduceIte, i23, c23, w17]
-- f24 laws.heldIntS
def X24_1 (a0 : (List Int)) (o : (Int ⊕ Unit)) : Ex × Fr × St :=
  match o with
  | .inl o => (.exit 0, frOf 21 (upd anyF 1 (.int .i64 o)), [])
  | .inr o => (.ret, frOf 21 (upd anyF 4 (.int .i64 (-1))), [])
def E24_1 (a0 : (List Int)) (s : (Int × Int)) : Fr × St := (frOf 21 (upd (upd (upd anyF 0 (.ts .imm 1 (a0.map encInt))) 1 (.int .i64 s.1)) 5 (.int .i64 s.2)), [])
theorem b24_1 (a0 : (List Int)) (s : (Int × Int)) (o : Ctl (Int × Int) (Int ⊕ Unit)) (h : m24_1b a0 s = some o) : evCL T 0 k24_1b (E24_1 a0 s).1 (E24_1 a0 s).2 = some (ctlX (E24_1 a0) (X24_1 a0) o) := by
  unfold m24_1b at h
  obtain ⟨s8, s9⟩ := s
  replace h := sel2_some h
  try simp -implicitDefEqProofs only [go_sem, Nat.reduceLT, Nat.reduceAdd, Nat.reduceSub, Nat.reduceMul, Nat.reduceEqDiff, Nat.reduceBEq, Nat.reduceLeDiff, Int.reduceToNat, Int.reduceLT, Int.reduceLE, Int.reduceEq, reduceCtorEq, ↓reduceIte, E24_1, X24_1, k24_1b]
  cases b10 : (ltI s9 (↑a0.length : Int) : Bool)
  · replace h := br_f b10 h
    cases h
    simp -implicitDefEqProofs only [go_sem, Nat.reduceLT, Nat.reduceAdd, Nat.reduceSub, Nat.reduceMul, Nat.reduceEqDiff, Nat.reduceBEq, Nat.reduceLeDiff, Int.reduceToNat, Int.reduceLT, Int.reduceLE, Int.reduceEq, reduceCtorEq, ↓reduceIte, E24_1, X24_1, k24_1b, b10]
  · replace h := br_t b10 h
    obtain ⟨x11, q12, h⟩ := bnd_some h
    obtain ⟨g13, g14, g15⟩ := idx_row encInt q12
    try simp -implicitDefEqProofs only [go_sem, Nat.reduceLT, Nat.reduceAdd, Nat.reduceSub, Nat.reduceMul, Nat.reduceEqDiff, Nat.reduceBEq, Nat.reduceLeDiff, Int.reduceToNat, Int.reduceLT, Int.reduceLE, Int.reduceEq, reduceCtorEq, ↓reduceIte] at g14
    try simp -implicitDefEqProofs only [go_sem, Nat.reduceLT, Nat.reduceAdd, Nat.reduceSub, Nat.reduceMul, Nat.reduceEqDiff, Nat.reduceBEq, Nat.reduceLeDiff, Int.reduceToNat, Int.reduceLT, Int.reduceLE, Int.reduceEq, reduceCtorEq, ↓reduceIte] at g15
    try simp -implicitDefEqProofs only [go_sem, Nat.reduceLT, Nat.reduceAdd, Nat.reduceSub, Nat.reduceMul, Nat.reduceEqDiff, Nat.reduceBEq, Nat.reduceLeDiff, Int.reduceToNat, Int.reduceLT, Int.reduceLE, Int.reduceEq, reduceCtorEq, ↓reduceIte, E24_1, X24_1, k24_1b, b10, g13, g14, g15]
    cases b16 : (eqI x11 s8 : Bool)
    · replace h := br_f b16 h
      cases h
      simp -implicitDefEqProofs only [go_sem, Nat.reduceLT, Nat.reduceAdd, Nat.reduceSub, Nat.reduceMul, Nat.reduceEqDiff, Nat.reduceBEq, Nat.reduceLeDiff, Int.reduceToNat, Int.reduceLT, Int.reduceLE, Int.reduceEq, reduceCtorEq, ↓reduceIte, E24_1, X24_1, k24_1b, b10, g13, g14, g15, b16]
    · replace h := br_t b16 h
      cases h
      simp -implicitDefEqProofs only [go_sem, Nat.reduceLT, Nat.reduceAdd, Nat.reduceSub, Nat.reduceMul, Nat.reduceEqDiff, Nat.reduceBEq, Nat.reduceLeDiff, Int.reduceToNat, Int.reduceLT, Int.reduceLE, Int.reduceEq, reduceCtorEq, ↓reduceIte, E24_1, X24_1, k24_1b, b10, g13, g14, g15, b16]
theorem e24_1 (a0 : (List Int)) (s : (Int × Int)) (o : (Int ⊕ Unit)) (h : loopP (m24_1b a0) s = some o) : evCL T 0 (.loop k24_1b) (E24_1 a0 s).1 (E24_1 a0 s).2 = some (X24_1 a0 o) :=
  loop_walk (E := E24_1 a0) (X := X24_1 a0) (by intro b; rcases b with b | b <;> (simp only [X24_1]; nofun)) (b24_1 a0) s o h
theorem call24 (args : List AV) (S : St) : evCall T (evFL T) 24 args S = lendC (evFL T 24) S (lendAll S [[1], [0]] args) := evCall0 fn24 rfl rfl args S
theorem callz24 (args : List AV) (S : St) : evCallFz T (evFL T) 24 args S = lendZ (evFL T 24) S [[0]] (lendAll S [[1], [0]] args) := evCallFz0 fn24 rfl rfl args S
attribute [go_sem] call24 callz24
theorem e24 (a0 : (List Int)) (a1 : Int) (r : Int) (h : m24 a0 a1 = some r) : evFL T 24 [.ts .imm 1 (a0.map encInt), .int .i64 a1] [] = some (.int .i64 r, []) := by
  unfold m24 at h
  rw [evFL_at fn24 (Nat.le_of_ble_eq_true rfl) rfl (.inr rfl)]
  try simp -implicitDefEqProofs only [go_sem, Nat.reduceLT, Nat.reduceAdd, Nat.reduceSub, Nat.reduceMul, Nat.reduceEqDiff, Nat.reduceBEq, Nat.reduceLeDiff, Int.reduceToNat, Int.reduceLT, Int.reduceLE, Int.reduceEq, reduceCtorEq, ↓reduceIte, i24, c24]
  obtain ⟨o, q17, h⟩ := bnd_some h
  rcases o with v19 | ⟨⟩
  · replace h := selS_l h
    have w18 := e24_1 a0 (a1, 0) (.inl v19) q17
    simp only [E24_1, X24_1] at w18
    try simp -implicitDefEqProofs only [go_sem, Nat.reduceLT, Nat.reduceAdd, Nat.reduceSub, Nat.reduceMul, Nat.reduceEqDiff, Nat.reduceBEq, Nat.reduceLeDiff, Int.reduceToNat, Int.reduceLT, Int.reduceLE, Int.reduceEq, reduceCtorEq, ↓reduceIte] at w18
    cases h
    simp -implicitDefEqProofs only [go_sem, Nat.reduceLT, Nat.reduceAdd, Nat.reduceSub, Nat.reduceMul, Nat.reduceEqDiff, Nat.reduceBEq, Nat.reduceLeDiff, Int.reduceToNat, Int.reduceLT, Int.reduceLE, Int.reduceEq, reduceCtorEq, ↓reduceIte, i24, c24, w18]
  · replace h := selS_r h
    have w18 := e24_1 a0 (a1, 0) (.inr ()) q17
    simp only [E24_1, X24_1] at w18
    try simp -implicitDefEqProofs only [go_sem, Nat.reduceLT, Nat.reduceAdd, Nat.reduceSub, Nat.reduceMul, Nat.reduceEqDiff, Nat.reduceBEq, Nat.reduceLeDiff, Int.reduceToNat, Int.reduceLT, Int.reduceLE, Int.reduceEq, reduceCtorEq, ↓reduceIte] at w18
    cases h
    simp -implicitDefEqProofs only [go_sem, Nat.reduceLT, Nat.reduceAdd, Nat.reduceSub, Nat.reduceMul, Nat.reduceEqDiff, Nat.reduceBEq, Nat.reduceLeDiff, Int.reduceToNat, Int.reduceLT, Int.reduceLE, Int.reduceEq, reduceCtorEq, ↓reduceIte, i24, c24, w18]
-- f6 laws.FnExactStepSession
def X6_1 (r11 : Bool) (r20 : Bool) (a0 : Session) (a1 : Evt) (r9 : Session) (r10 : (List Int)) (r18 : Session) (r19 : (List Int)) (o : Bool) : Ex × Fr × St :=
  (.normal, frOf 92 (upd (upd (upd (upd (upd (upd (upd anyF 2 (.ptr 0 0 0)) 3 (.ptr 1 0 0)) 5 (.ptr 2 0 0)) 6 (.sl 3 0 r10.length)) 7 (.bool r11)) 9 (.sl 4 0 r19.length)) 48 (.bool o)), [some ⟨.box, 5, [[.int .i64 a0.state, .int .i64 a0.hold, .int .i64 a0.left, .int .i64 a0.quiet, .int .i64 a0.ups]]⟩, some ⟨.box, 2, [[.int .i64 a1.kind, .int .i64 a1.n]]⟩, some ⟨.box, 5, [[.int .i64 r9.state, .int .i64 r9.hold, .int .i64 r9.left, .int .i64 r9.quiet, .int .i64 r9.ups]]⟩, some ⟨.arr, 1, r10.map encInt⟩, some ⟨.arr, 1, r19.map encInt⟩])
theorem e6_1 (r11 : Bool) (r20 : Bool) (a0 : Session) (a1 : Evt) (r9 : Session) (r10 : (List Int)) (r18 : Session) (r19 : (List Int)) (o : Bool) (h : m6_1 r11 r20 r9 r10 r18 r19 = some o) : evCL T 0 k6_1 (frOf 92 (upd (upd (upd (upd (upd (upd (upd (upd anyF 2 (.ptr 0 0 0)) 3 (.ptr 1 0 0)) 5 (.ptr 2 0 0)) 6 (.sl 3 0 r10.length)) 7 (.bool r11)) 8 (.ptr 4 0 0)) 9 (.sl 5 0 r19.length)) 10 (.bool r20))) [some ⟨.box, 5, [[.int .i64 a0.state, .int .i64 a0.hold, .int .i64 a0.left, .int .i64 a0.quiet, .int .i64 a0.ups]]⟩, some ⟨.box, 2, [[.int .i64 a1.kind, .int .i64 a1.n]]⟩, some ⟨.box, 5, [[.int .i64 r9.state, .int .i64 r9.hold, .int .i64 r9.left, .int .i64 r9.quiet, .int .i64 r9.ups]]⟩, some ⟨.arr, 1, r10.map encInt⟩, some ⟨.box, 5, [[.int .i64 r18.state, .int .i64 r18.hold, .int .i64 r18.left, .int .i64 r18.quiet, .int .i64 r18.ups]]⟩, some ⟨.arr, 1, r19.map encInt⟩] = some (X6_1 r11 r20 a0 a1 r9 r10 r18 r19 o) := by
  unfold m6_1 at h
  obtain ⟨r23, q21, h⟩ := bnd_some h
  have w22 := e13 r18 r9 r23 q21
  try simp -implicitDefEqProofs only [go_sem, Nat.reduceLT, Nat.reduceAdd, Nat.reduceSub, Nat.reduceMul, Nat.reduceEqDiff, Nat.reduceBEq, Nat.reduceLeDiff, Int.reduceToNat, Int.reduceLT, Int.reduceLE, Int.reduceEq, reduceCtorEq, ↓reduceIte] at w22
  try simp -implicitDefEqProofs only [go_sem, Nat.reduceLT, Nat.reduceAdd, Nat.reduceSub, Nat.reduceMul, Nat.reduceEqDiff, Nat.reduceBEq, Nat.reduceLeDiff, Int.reduceToNat, Int.reduceLT, Int.reduceLE, Int.reduceEq, reduceCtorEq, ↓reduceIte, X6_1, k6_1, w22]
  cases b24 : (r23 : Bool)
  · replace h := br_f b24 h
    cases h
    simp -implicitDefEqProofs only [go_sem, Nat.reduceLT, Nat.reduceAdd, Nat.reduceSub, Nat.reduceMul, Nat.reduceEqDiff, Nat.reduceBEq, Nat.reduceLeDiff, Int.reduceToNat, Int.reduceLT, Int.reduceLE, Int.reduceEq, reduceCtorEq, ↓reduceIte, X6_1, k6_1, w22, b24]
  · replace h := br_t b24 h
    obtain ⟨r27, q25, h⟩ := bnd_some h
    have w26 := e22 r19 r10 r27 q25
    try simp -implicitDefEqProofs only [go_sem, Nat.reduceLT, Nat.reduceAdd, Nat.reduceSub, Nat.reduceMul, Nat.reduceEqDiff, Nat.reduceBEq, Nat.reduceLeDiff, Int.reduceToNat, Int.reduceLT, Int.reduceLE, Int.reduceEq, reduceCtorEq, ↓reduceIte] at w26
    try simp -implicitDefEqProofs only [go_sem, Nat.reduceLT, Nat.reduceAdd, Nat.reduceSub, Nat.reduceMul, Nat.reduceEqDiff, Nat.reduceBEq, Nat.reduceLeDiff, Int.reduceToNat, Int.reduceLT, Int.reduceLE, Int.reduceEq, reduceCtorEq, ↓reduceIte, X6_1, k6_1, w22, b24, w26]
    cases b28 : (r27 : Bool)
    · replace h := br_f b28 h
      cases h
      simp -implicitDefEqProofs only [go_sem, Nat.reduceLT, Nat.reduceAdd, Nat.reduceSub, Nat.reduceMul, Nat.reduceEqDiff, Nat.reduceBEq, Nat.reduceLeDiff, Int.reduceToNat, Int.reduceLT, Int.reduceLE, Int.reduceEq, reduceCtorEq, ↓reduceIte, X6_1, k6_1, w22, b24, w26, b28]
    · replace h := br_t b28 h
      cases h
      simp -implicitDefEqProofs only [go_sem, Nat.reduceLT, Nat.reduceAdd, Nat.reduceSub, Nat.reduceMul, Nat.reduceEqDiff, Nat.reduceBEq, Nat.reduceLeDiff, Int.reduceToNat, Int.reduceLT, Int.reduceLE, Int.reduceEq, reduceCtorEq, ↓reduceIte, X6_1, k6_1, w22, b24, w26, b28]
def X6_2 (r11 : Bool) (r35 : Int) (r20 : Bool) (r9 : Session) (r10 : (List Int)) (r36 : List Int) (r18 : Session) (r19 : (List Int)) (o : Bool) : Ex × Fr × St :=
  (.normal, frOf 92 (upd (upd (upd anyF 9 (.sl 0 0 r36.length)) 11 (.int .i64 r35)) 83 (.bool o)), [some ⟨.arr, 1, r36.map encInt⟩])
theorem e6_2 (r11 : Bool) (r35 : Int) (r20 : Bool) (r9 : Session) (r10 : (List Int)) (r36 : List Int) (r18 : Session) (r19 : (List Int)) (o : Bool) (h : m6_2 r11 r20 r9 r10 r18 r19 = some o) : evCL T 0 k6_2 (frOf 92 (upd (upd (upd (upd (upd (upd (upd (upd anyF 5 (.ptr 0 0 0)) 6 (.sl 1 0 r10.length)) 7 (.bool r11)) 9 (.sl 2 0 r36.length)) 11 (.int .i64 r35)) 13 (.ptr 3 0 0)) 14 (.sl 4 0 r19.length)) 15 (.bool r20))) [some ⟨.box, 5, [[.int .i64 r9.state, .int .i64 r9.hold, .int .i64 r9.left, .int .i64 r9.quiet, .int .i64 r9.ups]]⟩, some ⟨.arr, 1, r10.map encInt⟩, some ⟨.arr, 1, r36.map encInt⟩, some ⟨.box, 5, [[.int .i64 r18.state, .int .i64 r18.hold, .int .i64 r18.left, .int .i64 r18.quiet, .int .i64 r18.ups]]⟩, some ⟨.arr, 1, r19.map encInt⟩] = some (X6_2 r11 r35 r20 r9 r10 r36 r18 r19 o) := by
  unfold m6_2 at h
  obtain ⟨r51, q49, h⟩ := bnd_some h
  have w50 := e13 r18 r9 r51 q49
  try simp -implicitDefEqProofs only [go_sem, Nat.reduceLT, Nat.reduceAdd, Nat.reduceSub, Nat.reduceMul, Nat.reduceEqDiff, Nat.reduceBEq, Nat.reduceLeDiff, Int.reduceToNat, Int.reduceLT, Int.reduceLE, Int.reduceEq, reduceCtorEq, ↓reduceIte] at w50
  try simp -implicitDefEqProofs only [go_sem, Nat.reduceLT, Nat.reduceAdd, Nat.reduceSub, Nat.reduceMul, Nat.reduceEqDiff, Nat.reduceBEq, Nat.reduceLeDiff, Int.reduceToNat, Int.reduceLT, Int.reduceLE, Int.reduceEq, reduceCtorEq, ↓reduceIte, X6_2, k6_2, w50]
  cases b52 : (r51 : Bool)
  · replace h := br_f b52 h
    cases h
    simp -implicitDefEqProofs only [go_sem, Nat.reduceLT, Nat.reduceAdd, Nat.reduceSub, Nat.reduceMul, Nat.reduceEqDiff, Nat.reduceBEq, Nat.reduceLeDiff, Int.reduceToNat, Int.reduceLT, Int.reduceLE, Int.reduceEq, reduceCtorEq, ↓reduceIte, X6_2, k6_2, w50, b52]
  · replace h := br_t b52 h
    obtain ⟨r55, q53, h⟩ := bnd_some h
    have w54 := e22 r19 r10 r55 q53
    try simp -implicitDefEqProofs only [go_sem, Nat.reduceLT, Nat.reduceAdd, Nat.reduceSub, Nat.reduceMul, Nat.reduceEqDiff, Nat.reduceBEq, Nat.reduceLeDiff, Int.reduceToNat, Int.reduceLT, Int.reduceLE, Int.reduceEq, reduceCtorEq, ↓reduceIte] at w54
    try simp -implicitDefEqProofs only [go_sem, Nat.reduceLT, Nat.reduceAdd, Nat.reduceSub, Nat.reduceMul, Nat.reduceEqDiff, Nat.reduceBEq, Nat.reduceLeDiff, Int.reduceToNat, Int.reduceLT, Int.reduceLE, Int.reduceEq, reduceCtorEq, ↓reduceIte, X6_2, k6_2, w50, b52, w54]
    cases b56 : (r55 : Bool)
    · replace h := br_f b56 h
      cases h
      simp -implicitDefEqProofs only [go_sem, Nat.reduceLT, Nat.reduceAdd, Nat.reduceSub, Nat.reduceMul, Nat.reduceEqDiff, Nat.reduceBEq, Nat.reduceLeDiff, Int.reduceToNat, Int.reduceLT, Int.reduceLE, Int.reduceEq, reduceCtorEq, ↓reduceIte, X6_2, k6_2, w50, b52, w54, b56]
    · replace h := br_t b56 h
      cases h
      simp -implicitDefEqProofs only [go_sem, Nat.reduceLT, Nat.reduceAdd, Nat.reduceSub, Nat.reduceMul, Nat.reduceEqDiff, Nat.reduceBEq, Nat.reduceLeDiff, Int.reduceToNat, Int.reduceLT, Int.reduceLE, Int.reduceEq, reduceCtorEq, ↓reduceIte, X6_2, k6_2, w50, b52, w54, b56]
theorem call6 (args : List AV) (S : St) : evCall T (evFL T) 6 args S = lendC (evFL T 6) S (lendAll S [[0, 0, 0, 0, 0], [0, 0]] args) := evCall0 fn6 rfl rfl args S
theorem callz6 (args : List AV) (S : St) : evCallFz T (evFL T) 6 args S = lendZ (evFL T 6) S [[0]] (lendAll S [[0, 0, 0, 0, 0], [0, 0]] args) := evCallFz0 fn6 rfl rfl args S
attribute [go_sem] call6 callz6
theorem e6 (a0 : Session) (a1 : Evt) (r : Bool) (h : m6 a0 a1 = some r) : evFL T 6 [.agg [.int .i64 a0.state, .int .i64 a0.hold, .int .i64 a0.left, .int .i64 a0.quiet, .int .i64 a0.ups], .agg [.int .i64 a1.kind, .int .i64 a1.n]] [] = some (.bool r, []) := by
  unfold m6 at h
  rw [evFL_at fn6 (Nat.le_of_ble_eq_true rfl) rfl (.inr rfl)]
  obtain ⟨r3, q1, h⟩ := bnd_some h
  have w2 := e15 a0 r3 q1
  try simp -implicitDefEqProofs only [go_sem, Nat.reduceLT, Nat.reduceAdd, Nat.reduceSub, Nat.reduceMul, Nat.reduceEqDiff, Nat.reduceBEq, Nat.reduceLeDiff, Int.reduceToNat, Int.reduceLT, Int.reduceLE, Int.reduceEq, reduceCtorEq, ↓reduceIte] at w2
  obtain ⟨r6, q4, h⟩ := bnd_some h
  have w5 := e20 a1 r6 q4
  try simp -implicitDefEqProofs only [go_sem, Nat.reduceLT, Nat.reduceAdd, Nat.reduceSub, Nat.reduceMul, Nat.reduceEqDiff, Nat.reduceBEq, Nat.reduceLeDiff, Int.reduceToNat, Int.reduceLT, Int.reduceLE, Int.reduceEq, reduceCtorEq, ↓reduceIte] at w5
  obtain ⟨⟨r9, r10, r11⟩, q7, h⟩ := bnd_some h
  replace h := sel3_some h
  have w8 := e19 r3 r6 (r9, r10, r11) q7
  try simp -implicitDefEqProofs only [go_sem, Nat.reduceLT, Nat.reduceAdd, Nat.reduceSub, Nat.reduceMul, Nat.reduceEqDiff, Nat.reduceBEq, Nat.reduceLeDiff, Int.reduceToNat, Int.reduceLT, Int.reduceLE, Int.reduceEq, reduceCtorEq, ↓reduceIte] at w8
  obtain ⟨⟨r18, r19, r20⟩, q16, h⟩ := bnd_some h
  replace h := sel3_some h
  have w17 := e21 r3 r6 (r18, r19, r20) q16
  try simp -implicitDefEqProofs only [go_sem, Nat.reduceLT, Nat.reduceAdd, Nat.reduceSub, Nat.reduceMul, Nat.reduceEqDiff, Nat.reduceBEq, Nat.reduceLeDiff, Int.reduceToNat, Int.reduceLT, Int.reduceLE, Int.reduceEq, reduceCtorEq, ↓reduceIte] at w17
  obtain ⟨v31, q29, h⟩ := bnd_some h
  have w30 := e6_1 r11 r20 a0 a1 r9 r10 r18 r19 v31 q29
  simp only [X6_1] at w30
  try simp -implicitDefEqProofs only [go_sem, Nat.reduceLT, Nat.reduceAdd, Nat.reduceSub, Nat.reduceMul, Nat.reduceEqDiff, Nat.reduceBEq, Nat.reduceLeDiff, Int.reduceToNat, Int.reduceLT, Int.reduceLE, Int.reduceEq, reduceCtorEq, ↓reduceIte] at w30
  try simp -implicitDefEqProofs only [go_sem, Nat.reduceLT, Nat.reduceAdd, Nat.reduceSub, Nat.reduceMul, Nat.reduceEqDiff, Nat.reduceBEq, Nat.reduceLeDiff, Int.reduceToNat, Int.reduceLT, Int.reduceLE, Int.reduceEq, reduceCtorEq, ↓reduceIte, i6, c6, w2, w5, w8, w17, w30]
  cases b32 : (v31 : Bool)
  · replace h := br_f b32 h
    obtain ⟨⟨r35, r36⟩, q33, h⟩ := bnd_some h
    replace h := sel2_some h
    have w34 := e23 r19 1 (r35, r36) q33
    try simp -implicitDefEqProofs only [go_sem, Nat.reduceLT, Nat.reduceAdd, Nat.reduceSub, Nat.reduceMul, Nat.reduceEqDiff, Nat.reduceBEq, Nat.reduceLeDiff, Int.reduceToNat, Int.reduceLT, Int.reduceLE, Int.reduceEq, reduceCtorEq, ↓reduceIte] at w34
    obtain ⟨g37, h⟩ := ck_some h
    try simp -implicitDefEqProofs only [go_sem, Nat.reduceLT, Nat.reduceAdd, Nat.reduceSub, Nat.reduceMul, Nat.reduceEqDiff, Nat.reduceBEq, Nat.reduceLeDiff, Int.reduceToNat, Int.reduceLT, Int.reduceLE, Int.reduceEq, reduceCtorEq, ↓reduceIte] at g37
    obtain ⟨r40, q38, h⟩ := bnd_some h
    have w39 := e24 r36 1 r40 q38
    try simp -implicitDefEqProofs only [go_sem, Nat.reduceLT, Nat.reduceAdd, Nat.reduceSub, Nat.reduceMul, Nat.reduceEqDiff, Nat.reduceBEq, Nat.reduceLeDiff, Int.reduceToNat, Int.reduceLT, Int.reduceLE, Int.reduceEq, reduceCtorEq, ↓reduceIte, g37] at w39
    try simp -implicitDefEqProofs only [go_sem, Nat.reduceLT, Nat.reduceAdd, Nat.reduceSub, Nat.reduceMul, Nat.reduceEqDiff, Nat.reduceBEq, Nat.reduceLeDiff, Int.reduceToNat, Int.reduceLT, Int.reduceLE, Int.reduceEq, reduceCtorEq, ↓reduceIte, i6, c6, w2, w5, w8, w17, w30, b32, w34, g37, take_of_len_map g37, w39]
    cases b41 : (ltI r40 0 : Bool)
    · replace h := br_f b41 h
      try simp -implicitDefEqProofs only [go_sem, Nat.reduceLT, Nat.reduceAdd, Nat.reduceSub, Nat.reduceMul, Nat.reduceEqDiff, Nat.reduceBEq, Nat.reduceLeDiff, Int.reduceToNat, Int.reduceLT, Int.reduceLE, Int.reduceEq, reduceCtorEq, ↓reduceIte, i6, c6, w2, w5, w8, w17, w30, b32, w34, g37, take_of_len_map g37, w39, b41]
      cases b42 : (eqI r40 r35 : Bool)
      · replace h := br_f b42 h
        cases h
        simp -implicitDefEqProofs only [go_sem, Nat.reduceLT, Nat.reduceAdd, Nat.reduceSub, Nat.reduceMul, Nat.reduceEqDiff, Nat.reduceBEq, Nat.reduceLeDiff, Int.reduceToNat, Int.reduceLT, Int.reduceLE, Int.reduceEq, reduceCtorEq, ↓reduceIte, i6, c6, w2, w5, w8, w17, w30, b32, w34, g37, take_of_len_map g37, w39, b41, b42]
      · replace h := br_t b42 h
        obtain ⟨v59, q57, h⟩ := bnd_some h
        have w58 := e6_2 r11 r35 r20 r9 r10 r36 r18 r19 v59 q57
        simp only [X6_2] at w58
        try simp -implicitDefEqProofs only [go_sem, Nat.reduceLT, Nat.reduceAdd, Nat.reduceSub, Nat.reduceMul, Nat.reduceEqDiff, Nat.reduceBEq, Nat.reduceLeDiff, Int.reduceToNat, Int.reduceLT, Int.reduceLE, Int.reduceEq, reduceCtorEq, ↓reduceIte, g37] at w58
        try simp -implicitDefEqProofs only [go_sem, Nat.reduceLT, Nat.reduceAdd, Nat.reduceSub, Nat.reduceMul, Nat.reduceEqDiff, Nat.reduceBEq, Nat.reduceLeDiff, Int.reduceToNat, Int.reduceLT, Int.reduceLE, Int.reduceEq, reduceCtorEq, ↓reduceIte, i6, c6, w2, w5, w8, w17, w30, b32, w34, g37, take_of_len_map g37, w39, b41, b42, w58]
        cases b60 : (v59 : Bool)
        · replace h := br_f b60 h
          cases h
          simp -implicitDefEqProofs only [go_sem, Nat.reduceLT, Nat.reduceAdd, Nat.reduceSub, Nat.reduceMul, Nat.reduceEqDiff, Nat.reduceBEq, Nat.reduceLeDiff, Int.reduceToNat, Int.reduceLT, Int.reduceLE, Int.reduceEq, reduceCtorEq, ↓reduceIte, i6, c6, w2, w5, w8, w17, w30, b32, w34, g37, take_of_len_map g37, w39, b41, b42, w58, b60]
        · replace h := br_t b60 h
          cases h
          simp -implicitDefEqProofs only [go_sem, Nat.reduceLT, Nat.reduceAdd, Nat.reduceSub, Nat.reduceMul, Nat.reduceEqDiff, Nat.reduceBEq, Nat.reduceLeDiff, Int.reduceToNat, Int.reduceLT, Int.reduceLE, Int.reduceEq, reduceCtorEq, ↓reduceIte, i6, c6, w2, w5, w8, w17, w30, b32, w34, g37, take_of_len_map g37, w39, b41, b42, w58, b60]
    · replace h := br_t b41 h
      cases h
      simp -implicitDefEqProofs only [go_sem, Nat.reduceLT, Nat.reduceAdd, Nat.reduceSub, Nat.reduceMul, Nat.reduceEqDiff, Nat.reduceBEq, Nat.reduceLeDiff, Int.reduceToNat, Int.reduceLT, Int.reduceLE, Int.reduceEq, reduceCtorEq, ↓reduceIte, i6, c6, w2, w5, w8, w17, w30, b32, w34, g37, take_of_len_map g37, w39, b41]
  · replace h := br_t b32 h
    cases h
    simp -implicitDefEqProofs only [go_sem, Nat.reduceLT, Nat.reduceAdd, Nat.reduceSub, Nat.reduceMul, Nat.reduceEqDiff, Nat.reduceBEq, Nat.reduceLeDiff, Int.reduceToNat, Int.reduceLT, Int.reduceLE, Int.reduceEq, reduceCtorEq, ↓reduceIte, i6, c6, w2, w5, w8, w17, w30, b32]
end Go.Pi.Ytcihklkihglmjaa.StepSession
