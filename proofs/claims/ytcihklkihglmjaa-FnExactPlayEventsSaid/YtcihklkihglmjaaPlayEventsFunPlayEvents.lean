/- What functions of the program answer, and that the law answers true at every input; no condition -/
import Derived.Test.YtcihklkihglmjaaPlayEventsTabPlayEvents
import Derived.Test.YtcihklkihglmjaaPlayEventsModPlayEvents
set_option linter.all false
/- Functions of the program: that the code answers as the plain functions do. -/
namespace Go.Pi.Ytcihklkihglmjaa.PlayEvents
open Go Go.Proofs Go.Pi
set_option maxRecDepth 100000
set_option linter.all false
def encInt (x : Int) : List AV := [.int .i64 x]
attribute [go_sem] encInt
theorem sq_encInt (q : Ql) (x : Int) : setQL q (encInt x) = encInt x := by simp [encInt]
theorem sqm_encInt (q : Ql) (xs : List Int) : setQLL q (xs.map encInt) = xs.map encInt := by rw [setQLL_map]; exact List.map_congr_left (fun x _ => sq_encInt q x)
theorem ow_encInt (x : Int) : ownOnlyL (encInt x) = true := by simp [encInt, ownOnlyL, ownOnly, ownLL_map]
theorem owm_encInt (xs : List Int) : ownOnlyLL (xs.map encInt) = true := ownLL_map _ ow_encInt xs
theorem fi_encInt (x : Int) : fine.fineL (encInt x) = true := by simp [encInt, fine.fineL, fine, fineLL_map]
theorem fim_encInt (xs : List Int) : fine.fineLL (xs.map encInt) = true := fineLL_map _ fi_encInt xs
theorem nu_encInt (x : Int) : nude.nudeL (encInt x) = true := by simp [encInt, nude.nudeL, nude, nudeLL_map]
theorem num_encInt (xs : List Int) : nude.nudeLL (xs.map encInt) = true := nudeLL_map _ nu_encInt xs
theorem st_encInt (q : Ql) (xs : List Int) : (xs.map encInt).map (fun x => x.map (setTop q)) = xs.map encInt := by rw [List.map_map]; rfl
attribute [go_sem] st_encInt
attribute [simp] sqm_encInt ow_encInt owm_encInt fi_encInt fim_encInt nu_encInt num_encInt
attribute [go_sem] sqm_encInt owm_encInt fim_encInt num_encInt
def encEvt (x : Evt) : List AV := [.int .i64 x.kind, .int .i64 x.n]
attribute [go_sem] encEvt
theorem sq_encEvt (q : Ql) (x : Evt) : setQL q (encEvt x) = encEvt x := by simp [encEvt]
theorem sqm_encEvt (q : Ql) (xs : List Evt) : setQLL q (xs.map encEvt) = xs.map encEvt := by rw [setQLL_map]; exact List.map_congr_left (fun x _ => sq_encEvt q x)
theorem ow_encEvt (x : Evt) : ownOnlyL (encEvt x) = true := by simp [encEvt, ownOnlyL, ownOnly, ownLL_map]
theorem owm_encEvt (xs : List Evt) : ownOnlyLL (xs.map encEvt) = true := ownLL_map _ ow_encEvt xs
theorem fi_encEvt (x : Evt) : fine.fineL (encEvt x) = true := by simp [encEvt, fine.fineL, fine, fineLL_map]
theorem fim_encEvt (xs : List Evt) : fine.fineLL (xs.map encEvt) = true := fineLL_map _ fi_encEvt xs
theorem nu_encEvt (x : Evt) : nude.nudeL (encEvt x) = true := by simp [encEvt, nude.nudeL, nude, nudeLL_map]
theorem num_encEvt (xs : List Evt) : nude.nudeLL (xs.map encEvt) = true := nudeLL_map _ nu_encEvt xs
theorem st_encEvt (q : Ql) (xs : List Evt) : (xs.map encEvt).map (fun x => x.map (setTop q)) = xs.map encEvt := by rw [List.map_map]; rfl
attribute [go_sem] st_encEvt
attribute [simp] sqm_encEvt ow_encEvt owm_encEvt fi_encEvt fim_encEvt nu_encEvt num_encEvt
attribute [go_sem] sqm_encEvt owm_encEvt fim_encEvt num_encEvt
def encLEvt (q : Ql) (x : (List Evt)) : List AV := [.ts q 2 (x.map encEvt)]
attribute [go_sem] encLEvt
theorem sq_encLEvt (q q1 : Ql) (x : (List Evt)) : setQL q (encLEvt q1 x) = encLEvt q x := by simp [encLEvt, sq_encEvt]
theorem sqm_encLEvt (q q1 : Ql) (xs : List (List Evt)) : setQLL q (xs.map (encLEvt q1)) = xs.map (encLEvt q) := by rw [setQLL_map]; exact List.map_congr_left (fun x _ => sq_encLEvt q q1 x)
theorem ow_encLEvt (x : (List Evt)) : ownOnlyL (encLEvt .own x) = true := by simp [encLEvt, ownOnlyL, ownOnly, ownLL_map]
theorem owm_encLEvt (xs : List (List Evt)) : ownOnlyLL (xs.map (encLEvt .own)) = true := ownLL_map _ ow_encLEvt xs
theorem fi_encLEvt (x : (List Evt)) : fine.fineL (encLEvt .own x) = true := by simp [encLEvt, fine.fineL, fine, fineLL_map]
theorem fim_encLEvt (xs : List (List Evt)) : fine.fineLL (xs.map (encLEvt .own)) = true := fineLL_map _ fi_encLEvt xs
theorem nu_encLEvt (x : (List Evt)) : nude.nudeL (encLEvt .own x) = true := by simp [encLEvt, nude.nudeL, nude, nudeLL_map]
theorem num_encLEvt (xs : List (List Evt)) : nude.nudeLL (xs.map (encLEvt .own)) = true := nudeLL_map _ nu_encLEvt xs
theorem st_encLEvt (q q1 : Ql) (xs : List (List Evt)) : (xs.map (encLEvt q1)).map (fun x => x.map (setTop q)) = xs.map (encLEvt q) := by rw [List.map_map]; rfl
attribute [go_sem] st_encLEvt
attribute [simp] sqm_encLEvt ow_encLEvt owm_encLEvt fi_encLEvt fim_encLEvt nu_encLEvt num_encLEvt
attribute [go_sem] sqm_encLEvt owm_encLEvt fim_encLEvt num_encLEvt
def encBool (x : Bool) : List AV := [.bool x]
attribute [go_sem] encBool
theorem sq_encBool (q : Ql) (x : Bool) : setQL q (encBool x) = encBool x := by simp [encBool]
theorem sqm_encBool (q : Ql) (xs : List Bool) : setQLL q (xs.map encBool) = xs.map encBool := by rw [setQLL_map]; exact List.map_congr_left (fun x _ => sq_encBool q x)
theorem ow_encBool (x : Bool) : ownOnlyL (encBool x) = true := by simp [encBool, ownOnlyL, ownOnly, ownLL_map]
theorem owm_encBool (xs : List Bool) : ownOnlyLL (xs.map encBool) = true := ownLL_map _ ow_encBool xs
theorem fi_encBool (x : Bool) : fine.fineL (encBool x) = true := by simp [encBool, fine.fineL, fine, fineLL_map]
theorem fim_encBool (xs : List Bool) : fine.fineLL (xs.map encBool) = true := fineLL_map _ fi_encBool xs
theorem nu_encBool (x : Bool) : nude.nudeL (encBool x) = true := by simp [encBool, nude.nudeL, nude, nudeLL_map]
theorem num_encBool (xs : List Bool) : nude.nudeLL (xs.map encBool) = true := nudeLL_map _ nu_encBool xs
theorem st_encBool (q : Ql) (xs : List Bool) : (xs.map encBool).map (fun x => x.map (setTop q)) = xs.map encBool := by rw [List.map_map]; rfl
attribute [go_sem] st_encBool
attribute [simp] sqm_encBool ow_encBool owm_encBool fi_encBool fim_encBool nu_encBool num_encBool
attribute [go_sem] sqm_encBool owm_encBool fim_encBool num_encBool
def encSession (x : Session) : List AV := [.int .i64 x.state, .int .i64 x.hold, .int .i64 x.left, .int .i64 x.quiet, .int .i64 x.ups]
attribute [go_sem] encSession
theorem sq_encSession (q : Ql) (x : Session) : setQL q (encSession x) = encSession x := by simp [encSession]
theorem sqm_encSession (q : Ql) (xs : List Session) : setQLL q (xs.map encSession) = xs.map encSession := by rw [setQLL_map]; exact List.map_congr_left (fun x _ => sq_encSession q x)
theorem ow_encSession (x : Session) : ownOnlyL (encSession x) = true := by simp [encSession, ownOnlyL, ownOnly, ownLL_map]
theorem owm_encSession (xs : List Session) : ownOnlyLL (xs.map encSession) = true := ownLL_map _ ow_encSession xs
theorem fi_encSession (x : Session) : fine.fineL (encSession x) = true := by simp [encSession, fine.fineL, fine, fineLL_map]
theorem fim_encSession (xs : List Session) : fine.fineLL (xs.map encSession) = true := fineLL_map _ fi_encSession xs
theorem nu_encSession (x : Session) : nude.nudeL (encSession x) = true := by simp [encSession, nude.nudeL, nude, nudeLL_map]
theorem num_encSession (xs : List Session) : nude.nudeLL (xs.map encSession) = true := nudeLL_map _ nu_encSession xs
theorem st_encSession (q : Ql) (xs : List Session) : (xs.map encSession).map (fun x => x.map (setTop q)) = xs.map encSession := by rw [List.map_map]; rfl
attribute [go_sem] st_encSession
attribute [simp] sqm_encSession ow_encSession owm_encSession fi_encSession fim_encSession nu_encSession num_encSession
attribute [go_sem] sqm_encSession owm_encSession fim_encSession num_encSession
def encLInt (q : Ql) (x : (List Int)) : List AV := [.ts q 1 (x.map encInt)]
attribute [go_sem] encLInt
theorem sq_encLInt (q q1 : Ql) (x : (List Int)) : setQL q (encLInt q1 x) = encLInt q x := by simp [encLInt, sq_encInt]
theorem sqm_encLInt (q q1 : Ql) (xs : List (List Int)) : setQLL q (xs.map (encLInt q1)) = xs.map (encLInt q) := by rw [setQLL_map]; exact List.map_congr_left (fun x _ => sq_encLInt q q1 x)
theorem ow_encLInt (x : (List Int)) : ownOnlyL (encLInt .own x) = true := by simp [encLInt, ownOnlyL, ownOnly, ownLL_map]
theorem owm_encLInt (xs : List (List Int)) : ownOnlyLL (xs.map (encLInt .own)) = true := ownLL_map _ ow_encLInt xs
theorem fi_encLInt (x : (List Int)) : fine.fineL (encLInt .own x) = true := by simp [encLInt, fine.fineL, fine, fineLL_map]
theorem fim_encLInt (xs : List (List Int)) : fine.fineLL (xs.map (encLInt .own)) = true := fineLL_map _ fi_encLInt xs
theorem nu_encLInt (x : (List Int)) : nude.nudeL (encLInt .own x) = true := by simp [encLInt, nude.nudeL, nude, nudeLL_map]
theorem num_encLInt (xs : List (List Int)) : nude.nudeLL (xs.map (encLInt .own)) = true := nudeLL_map _ nu_encLInt xs
theorem st_encLInt (q q1 : Ql) (xs : List (List Int)) : (xs.map (encLInt q1)).map (fun x => x.map (setTop q)) = xs.map (encLInt q) := by rw [List.map_map]; rfl
attribute [go_sem] st_encLInt
attribute [simp] sqm_encLInt ow_encLInt owm_encLInt fi_encLInt fim_encLInt nu_encLInt num_encLInt
attribute [go_sem] sqm_encLInt owm_encLInt fim_encLInt num_encLInt
-- f25 laws.szEventS
theorem call25 (args : List AV) (S : St) : evCall T (evFL T) 25 args S = lendC (evFL T 25) S (lendAll S [[2], [0]] args) := evCall0 fn25 rfl rfl args S
theorem callz25 (args : List AV) (S : St) : evCallFz T (evFL T) 25 args S = lendZ (evFL T 25) S [[0]] (lendAll S [[2], [0]] args) := evCallFz0 fn25 rfl rfl args S
attribute [go_sem] call25 callz25
theorem e25 (a0 : (List Evt)) (a1 : Int) (r : Int) (h : m25 a0 a1 = some r) : evFL T 25 [.ts .imm 2 (a0.map encEvt), .int .i64 a1] [] = some (.int .i64 r, []) := by
  unfold m25 at h
  rw [evFL_at fn25 (Nat.le_of_ble_eq_true rfl) rfl (.inr rfl)]
  try simp -implicitDefEqProofs only [go_sem, Nat.reduceLT, Nat.reduceAdd, Nat.reduceSub, Nat.reduceMul, Nat.reduceEqDiff, Nat.reduceBEq, Nat.reduceLeDiff, Int.reduceToNat, Int.reduceLT, Int.reduceLE, Int.reduceEq, reduceCtorEq, ↓reduceIte, i25, c25]
  cases b1 : (ltI (wsub .i64 a1 (↑a0.length : Int)) 0 : Bool)
  · replace h := br_f b1 h
    cases h
    simp -implicitDefEqProofs only [go_sem, Nat.reduceLT, Nat.reduceAdd, Nat.reduceSub, Nat.reduceMul, Nat.reduceEqDiff, Nat.reduceBEq, Nat.reduceLeDiff, Int.reduceToNat, Int.reduceLT, Int.reduceLE, Int.reduceEq, reduceCtorEq, ↓reduceIte, i25, c25, b1]
  · replace h := br_t b1 h
    cases h
    simp -implicitDefEqProofs only [go_sem, Nat.reduceLT, Nat.reduceAdd, Nat.reduceSub, Nat.reduceMul, Nat.reduceEqDiff, Nat.reduceBEq, Nat.reduceLeDiff, Int.reduceToNat, Int.reduceLT, Int.reduceLE, Int.reduceEq, reduceCtorEq, ↓reduceIte, i25, c25, b1]
-- f20 laws.toEvent
theorem call20 (args : List AV) (S : St) : evCall T (evFL T) 20 args S = lendC (evFL T 20) S (lendAll S [[0, 0]] args) := evCall0 fn20 rfl rfl args S
theorem callz20 (args : List AV) (S : St) : evCallFz T (evFL T) 20 args S = lendZ (evFL T 20) S [[0, 0]] (lendAll S [[0, 0]] args) := evCallFz0 fn20 rfl rfl args S
attribute [go_sem] call20 callz20
theorem e20 (a0 : Evt) (r : Evt) (h : m20 a0 = some r) : evFL T 20 [.agg [.int .i64 a0.kind, .int .i64 a0.n]] [] = some (.agg [.int .i64 r.kind, .int .i64 r.n], []) := by
  unfold m20 at h
  rw [evFL_at fn20 (Nat.le_of_ble_eq_true rfl) rfl (.inr rfl)]
  cases h
  simp -implicitDefEqProofs only [go_sem, Nat.reduceLT, Nat.reduceAdd, Nat.reduceSub, Nat.reduceMul, Nat.reduceEqDiff, Nat.reduceBEq, Nat.reduceLeDiff, Int.reduceToNat, Int.reduceLT, Int.reduceLE, Int.reduceEq, reduceCtorEq, ↓reduceIte, i20, c20]
-- f27 laws.toEventS
def X27_1 (a0 : (List Evt)) (o : (List Evt)) : Ex × Fr × St :=
  (.exit 0, frOf 23 (upd anyF 3 (.sl 0 0 o.length)), [some ⟨.arr, 2, o.map encEvt⟩])
def E27_1 (a0 : (List Evt)) (s : (Int × List Evt)) : Fr × St := (frOf 23 (upd (upd (upd anyF 0 (.ts .imm 2 (a0.map encEvt))) 3 (.sl 0 0 s.2.length)) 4 (.int .i64 s.1)), [some ⟨.arr, 2, s.2.map encEvt⟩])
theorem b27_1 (a0 : (List Evt)) (s : (Int × List Evt)) (o : Ctl (Int × List Evt) (List Evt)) (h : m27_1b a0 s = some o) : evCL T 0 k27_1b (E27_1 a0 s).1 (E27_1 a0 s).2 = some (ctlX (E27_1 a0) (X27_1 a0) o) := by
  unfold m27_1b at h
  obtain ⟨s17, s18⟩ := s
  replace h := sel2_some h
  try simp -implicitDefEqProofs only [go_sem, Nat.reduceLT, Nat.reduceAdd, Nat.reduceSub, Nat.reduceMul, Nat.reduceEqDiff, Nat.reduceBEq, Nat.reduceLeDiff, Int.reduceToNat, Int.reduceLT, Int.reduceLE, Int.reduceEq, reduceCtorEq, ↓reduceIte, E27_1, X27_1, k27_1b]
  cases b19 : (ltI s17 (↑a0.length : Int) : Bool)
  · replace h := br_f b19 h
    cases h
    simp -implicitDefEqProofs only [go_sem, Nat.reduceLT, Nat.reduceAdd, Nat.reduceSub, Nat.reduceMul, Nat.reduceEqDiff, Nat.reduceBEq, Nat.reduceLeDiff, Int.reduceToNat, Int.reduceLT, Int.reduceLE, Int.reduceEq, reduceCtorEq, ↓reduceIte, E27_1, X27_1, k27_1b, b19]
  · replace h := br_t b19 h
    obtain ⟨x20, q21, h⟩ := bnd_some h
    obtain ⟨g22, g23, g24⟩ := idx_row encEvt q21
    try simp -implicitDefEqProofs only [go_sem, Nat.reduceLT, Nat.reduceAdd, Nat.reduceSub, Nat.reduceMul, Nat.reduceEqDiff, Nat.reduceBEq, Nat.reduceLeDiff, Int.reduceToNat, Int.reduceLT, Int.reduceLE, Int.reduceEq, reduceCtorEq, ↓reduceIte] at g23
    try simp -implicitDefEqProofs only [go_sem, Nat.reduceLT, Nat.reduceAdd, Nat.reduceSub, Nat.reduceMul, Nat.reduceEqDiff, Nat.reduceBEq, Nat.reduceLeDiff, Int.reduceToNat, Int.reduceLT, Int.reduceLE, Int.reduceEq, reduceCtorEq, ↓reduceIte] at g24
    obtain ⟨r27, q25, h⟩ := bnd_some h
    have w26 := e20 x20 r27 q25
    try simp -implicitDefEqProofs only [go_sem, Nat.reduceLT, Nat.reduceAdd, Nat.reduceSub, Nat.reduceMul, Nat.reduceEqDiff, Nat.reduceBEq, Nat.reduceLeDiff, Int.reduceToNat, Int.reduceLT, Int.reduceLE, Int.reduceEq, reduceCtorEq, ↓reduceIte] at w26
    obtain ⟨x28, q29, h⟩ := bnd_some h
    obtain ⟨g30, g31, g32⟩ := idx_row encEvt q29
    try simp -implicitDefEqProofs only [go_sem, Nat.reduceLT, Nat.reduceAdd, Nat.reduceSub, Nat.reduceMul, Nat.reduceEqDiff, Nat.reduceBEq, Nat.reduceLeDiff, Int.reduceToNat, Int.reduceLT, Int.reduceLE, Int.reduceEq, reduceCtorEq, ↓reduceIte] at g31
    try simp -implicitDefEqProofs only [go_sem, Nat.reduceLT, Nat.reduceAdd, Nat.reduceSub, Nat.reduceMul, Nat.reduceEqDiff, Nat.reduceBEq, Nat.reduceLeDiff, Int.reduceToNat, Int.reduceLT, Int.reduceLE, Int.reduceEq, reduceCtorEq, ↓reduceIte] at g32
    cases h
    simp -implicitDefEqProofs only [go_sem, Nat.reduceLT, Nat.reduceAdd, Nat.reduceSub, Nat.reduceMul, Nat.reduceEqDiff, Nat.reduceBEq, Nat.reduceLeDiff, Int.reduceToNat, Int.reduceLT, Int.reduceLE, Int.reduceEq, reduceCtorEq, ↓reduceIte, E27_1, X27_1, k27_1b, b19, g22, g23, g24, w26, g30, g31, g32]
theorem e27_1 (a0 : (List Evt)) (s : (Int × List Evt)) (o : (List Evt)) (h : loopP (m27_1b a0) s = some o) : evCL T 0 (.loop k27_1b) (E27_1 a0 s).1 (E27_1 a0 s).2 = some (X27_1 a0 o) :=
  loop_walk (E := E27_1 a0) (X := X27_1 a0) (by intro b; (simp only [X27_1]; nofun)) (b27_1 a0) s o h
theorem call27 (args : List AV) (S : St) : evCall T (evFL T) 27 args S = lendC (evFL T 27) S (lendAll S [[2]] args) := evCall0 fn27 rfl rfl args S
theorem callz27 (args : List AV) (S : St) : evCallFz T (evFL T) 27 args S = lendZ (evFL T 27) S [[2]] (lendAll S [[2]] args) := evCallFz0 fn27 rfl rfl args S
attribute [go_sem] call27 callz27
theorem e27 (a0 : (List Evt)) (r : (List Evt)) (h : m27 a0 = some r) : evFL T 27 [.ts .imm 2 (a0.map encEvt)] [] = some (.sl 0 0 r.length, [some ⟨.arr, 2, r.map encEvt⟩]) := by
  unfold m27 at h
  rw [evFL_at fn27 (Nat.le_of_ble_eq_true rfl) rfl (.inr rfl)]
  obtain ⟨g1, h⟩ := ck_some h
  try simp -implicitDefEqProofs only [go_sem, Nat.reduceLT, Nat.reduceAdd, Nat.reduceSub, Nat.reduceMul, Nat.reduceEqDiff, Nat.reduceBEq, Nat.reduceLeDiff, Int.reduceToNat, Int.reduceLT, Int.reduceLE, Int.reduceEq, reduceCtorEq, ↓reduceIte] at g1
  obtain ⟨v35, q33, h⟩ := bnd_some h
  have w34 := e27_1 a0 (0, List.replicate a0.length (⟨0, 0⟩ : Evt)) v35 q33
  simp only [E27_1, X27_1] at w34
  try simp -implicitDefEqProofs only [go_sem, Nat.reduceLT, Nat.reduceAdd, Nat.reduceSub, Nat.reduceMul, Nat.reduceEqDiff, Nat.reduceBEq, Nat.reduceLeDiff, Int.reduceToNat, Int.reduceLT, Int.reduceLE, Int.reduceEq, reduceCtorEq, ↓reduceIte] at w34
  cases h
  simp -implicitDefEqProofs only [go_sem, Nat.reduceLT, Nat.reduceAdd, Nat.reduceSub, Nat.reduceMul, Nat.reduceEqDiff, Nat.reduceBEq, Nat.reduceLeDiff, Int.reduceToNat, Int.reduceLT, Int.reduceLE, Int.reduceEq, reduceCtorEq, ↓reduceIte, i27, c27, g1, w34]
-- f39 spec.l1In
def X39_1 (a0 : Int) (a1 : Int) (a2 : Int) (o : Bool) : Ex × Fr × St :=
  (.normal, frOf 15 (upd anyF 6 (.bool o)), [])
theorem e39_1 (a0 : Int) (a1 : Int) (a2 : Int) (o : Bool) (h : m39_1 a0 a1 a2 = some o) : evCL T 0 k39_1 (frOf 15 (upd (upd (upd anyF 0 (.int .i64 a0)) 1 (.int .i64 a1)) 2 (.int .i64 a2))) [] = some (X39_1 a0 a1 a2 o) := by
  unfold m39_1 at h
  try simp -implicitDefEqProofs only [go_sem, Nat.reduceLT, Nat.reduceAdd, Nat.reduceSub, Nat.reduceMul, Nat.reduceEqDiff, Nat.reduceBEq, Nat.reduceLeDiff, Int.reduceToNat, Int.reduceLT, Int.reduceLE, Int.reduceEq, reduceCtorEq, ↓reduceIte, X39_1, k39_1]
  cases b1 : (leI a1 a0 : Bool)
  · replace h := br_f b1 h
    cases h
    simp -implicitDefEqProofs only [go_sem, Nat.reduceLT, Nat.reduceAdd, Nat.reduceSub, Nat.reduceMul, Nat.reduceEqDiff, Nat.reduceBEq, Nat.reduceLeDiff, Int.reduceToNat, Int.reduceLT, Int.reduceLE, Int.reduceEq, reduceCtorEq, ↓reduceIte, X39_1, k39_1, b1]
  · replace h := br_t b1 h
    cases h
    simp -implicitDefEqProofs only [go_sem, Nat.reduceLT, Nat.reduceAdd, Nat.reduceSub, Nat.reduceMul, Nat.reduceEqDiff, Nat.reduceBEq, Nat.reduceLeDiff, Int.reduceToNat, Int.reduceLT, Int.reduceLE, Int.reduceEq, reduceCtorEq, ↓reduceIte, X39_1, k39_1, b1]
theorem call39 (args : List AV) (S : St) : evCall T (evFL T) 39 args S = lendC (evFL T 39) S (lendAll S [[0], [0], [0]] args) := evCall0 fn39 rfl rfl args S
theorem callz39 (args : List AV) (S : St) : evCallFz T (evFL T) 39 args S = lendZ (evFL T 39) S [[0]] (lendAll S [[0], [0], [0]] args) := evCallFz0 fn39 rfl rfl args S
attribute [go_sem] call39 callz39
theorem e39 (a0 : Int) (a1 : Int) (a2 : Int) (r : Bool) (h : m39 a0 a1 a2 = some r) : evFL T 39 [.int .i64 a0, .int .i64 a1, .int .i64 a2] [] = some (.bool r, []) := by
  unfold m39 at h
  rw [evFL_at fn39 (Nat.le_of_ble_eq_true rfl) rfl (.inr rfl)]
  obtain ⟨v4, q2, h⟩ := bnd_some h
  have w3 := e39_1 a0 a1 a2 v4 q2
  simp only [X39_1] at w3
  try simp -implicitDefEqProofs only [go_sem, Nat.reduceLT, Nat.reduceAdd, Nat.reduceSub, Nat.reduceMul, Nat.reduceEqDiff, Nat.reduceBEq, Nat.reduceLeDiff, Int.reduceToNat, Int.reduceLT, Int.reduceLE, Int.reduceEq, reduceCtorEq, ↓reduceIte] at w3
  cases h
  simp -implicitDefEqProofs only [go_sem, Nat.reduceLT, Nat.reduceAdd, Nat.reduceSub, Nat.reduceMul, Nat.reduceEqDiff, Nat.reduceBEq, Nat.reduceLeDiff, Int.reduceToNat, Int.reduceLT, Int.reduceLE, Int.reduceEq, reduceCtorEq, ↓reduceIte, i39, c39, w3]
-- f11 spec.NewSession
theorem call11 (args : List AV) (S : St) : evCall T (evFL T) 11 args S = lendC (evFL T 11) S (lendAll S [[0]] args) := evCall0 fn11 rfl rfl args S
theorem callz11 (args : List AV) (S : St) : evCallFz T (evFL T) 11 args S = lendZ (evFL T 11) S [[0, 0, 0, 0, 0], [0]] (lendAll S [[0]] args) := evCallFz0 fn11 rfl rfl args S
attribute [go_sem] call11 callz11
theorem e11 (a0 : Int) (r : (Session × Bool)) (h : m11 a0 = some r) : evFL T 11 [.int .i64 a0] [] = some (.tup [.agg [.int .i64 r.1.state, .int .i64 r.1.hold, .int .i64 r.1.left, .int .i64 r.1.quiet, .int .i64 r.1.ups], .bool r.2], []) := by
  unfold m11 at h
  rw [evFL_at fn11 (Nat.le_of_ble_eq_true rfl) rfl (.inr rfl)]
  obtain ⟨r3, q1, h⟩ := bnd_some h
  have w2 := e39 a0 3 90 r3 q1
  try simp -implicitDefEqProofs only [go_sem, Nat.reduceLT, Nat.reduceAdd, Nat.reduceSub, Nat.reduceMul, Nat.reduceEqDiff, Nat.reduceBEq, Nat.reduceLeDiff, Int.reduceToNat, Int.reduceLT, Int.reduceLE, Int.reduceEq, reduceCtorEq, ↓reduceIte] at w2
  try simp -implicitDefEqProofs only [go_sem, Nat.reduceLT, Nat.reduceAdd, Nat.reduceSub, Nat.reduceMul, Nat.reduceEqDiff, Nat.reduceBEq, Nat.reduceLeDiff, Int.reduceToNat, Int.reduceLT, Int.reduceLE, Int.reduceEq, reduceCtorEq, ↓reduceIte, i11, c11, w2]
  cases b4 : (r3 : Bool)
  · replace h := br_f b4 h
    cases h
    simp -implicitDefEqProofs only [go_sem, Nat.reduceLT, Nat.reduceAdd, Nat.reduceSub, Nat.reduceMul, Nat.reduceEqDiff, Nat.reduceBEq, Nat.reduceLeDiff, Int.reduceToNat, Int.reduceLT, Int.reduceLE, Int.reduceEq, reduceCtorEq, ↓reduceIte, i11, c11, w2, b4]
  · replace h := br_t b4 h
    cases h
    simp -implicitDefEqProofs only [go_sem, Nat.reduceLT, Nat.reduceAdd, Nat.reduceSub, Nat.reduceMul, Nat.reduceEqDiff, Nat.reduceBEq, Nat.reduceLeDiff, Int.reduceToNat, Int.reduceLT, Int.reduceLE, Int.reduceEq, reduceCtorEq, ↓reduceIte, i11, c11, w2, b4]
-- f41 spec.l12Event
def X41_1 (a0 : Evt) (o : Bool) : Ex × Fr × St :=
  (.normal, frOf 17 (upd anyF 2 (.bool o)), [])
theorem e41_1 (a0 : Evt) (o : Bool) (h : m41_1 a0 = some o) : evCL T 0 k41_1 (frOf 17 (upd anyF 1 (.ptr 0 0 0))) [some ⟨.box, 2, [[.int .i64 a0.kind, .int .i64 a0.n]]⟩] = some (X41_1 a0 o) := by
  unfold m41_1 at h
  obtain ⟨r7, q5, h⟩ := bnd_some h
  have w6 := e39 a0.kind 1 10 r7 q5
  try simp -implicitDefEqProofs only [go_sem, Nat.reduceLT, Nat.reduceAdd, Nat.reduceSub, Nat.reduceMul, Nat.reduceEqDiff, Nat.reduceBEq, Nat.reduceLeDiff, Int.reduceToNat, Int.reduceLT, Int.reduceLE, Int.reduceEq, reduceCtorEq, ↓reduceIte] at w6
  try simp -implicitDefEqProofs only [go_sem, Nat.reduceLT, Nat.reduceAdd, Nat.reduceSub, Nat.reduceMul, Nat.reduceEqDiff, Nat.reduceBEq, Nat.reduceLeDiff, Int.reduceToNat, Int.reduceLT, Int.reduceLE, Int.reduceEq, reduceCtorEq, ↓reduceIte, X41_1, k41_1, w6]
  cases b8 : (r7 : Bool)
  · replace h := br_f b8 h
    cases h
    simp -implicitDefEqProofs only [go_sem, Nat.reduceLT, Nat.reduceAdd, Nat.reduceSub, Nat.reduceMul, Nat.reduceEqDiff, Nat.reduceBEq, Nat.reduceLeDiff, Int.reduceToNat, Int.reduceLT, Int.reduceLE, Int.reduceEq, reduceCtorEq, ↓reduceIte, X41_1, k41_1, w6, b8]
  · replace h := br_t b8 h
    cases h
    simp -implicitDefEqProofs only [go_sem, Nat.reduceLT, Nat.reduceAdd, Nat.reduceSub, Nat.reduceMul, Nat.reduceEqDiff, Nat.reduceBEq, Nat.reduceLeDiff, Int.reduceToNat, Int.reduceLT, Int.reduceLE, Int.reduceEq, reduceCtorEq, ↓reduceIte, X41_1, k41_1, w6, b8]
theorem call41 (args : List AV) (S : St) : evCall T (evFL T) 41 args S = lendC (evFL T 41) S (lendAll S [[0, 0]] args) := evCall0 fn41 rfl rfl args S
theorem callz41 (args : List AV) (S : St) : evCallFz T (evFL T) 41 args S = lendZ (evFL T 41) S [[0]] (lendAll S [[0, 0]] args) := evCallFz0 fn41 rfl rfl args S
attribute [go_sem] call41 callz41
theorem e41 (a0 : Evt) (r : Bool) (h : m41 a0 = some r) : evFL T 41 [.agg [.int .i64 a0.kind, .int .i64 a0.n]] [] = some (.bool r, []) := by
  unfold m41 at h
  rw [evFL_at fn41 (Nat.le_of_ble_eq_true rfl) rfl (.inr rfl)]
  try simp -implicitDefEqProofs only [go_sem, Nat.reduceLT, Nat.reduceAdd, Nat.reduceSub, Nat.reduceMul, Nat.reduceEqDiff, Nat.reduceBEq, Nat.reduceLeDiff, Int.reduceToNat, Int.reduceLT, Int.reduceLE, Int.reduceEq, reduceCtorEq, ↓reduceIte, i41, c41]
  cases b1 : (eqI a0.kind 5 : Bool)
  · replace h := br_f b1 h
    obtain ⟨v11, q9, h⟩ := bnd_some h
    have w10 := e41_1 a0 v11 q9
    simp only [X41_1] at w10
    try simp -implicitDefEqProofs only [go_sem, Nat.reduceLT, Nat.reduceAdd, Nat.reduceSub, Nat.reduceMul, Nat.reduceEqDiff, Nat.reduceBEq, Nat.reduceLeDiff, Int.reduceToNat, Int.reduceLT, Int.reduceLE, Int.reduceEq, reduceCtorEq, ↓reduceIte] at w10
    cases h
    simp -implicitDefEqProofs only [go_sem, Nat.reduceLT, Nat.reduceAdd, Nat.reduceSub, Nat.reduceMul, Nat.reduceEqDiff, Nat.reduceBEq, Nat.reduceLeDiff, Int.reduceToNat, Int.reduceLT, Int.reduceLE, Int.reduceEq, reduceCtorEq, ↓reduceIte, i41, c41, b1, w10]
  · replace h := br_t b1 h
    obtain ⟨r4, q2, h⟩ := bnd_some h
    have w3 := e39 a0.n 0 100 r4 q2
    try simp -implicitDefEqProofs only [go_sem, Nat.reduceLT, Nat.reduceAdd, Nat.reduceSub, Nat.reduceMul, Nat.reduceEqDiff, Nat.reduceBEq, Nat.reduceLeDiff, Int.reduceToNat, Int.reduceLT, Int.reduceLE, Int.reduceEq, reduceCtorEq, ↓reduceIte] at w3
    cases h
    simp -implicitDefEqProofs only [go_sem, Nat.reduceLT, Nat.reduceAdd, Nat.reduceSub, Nat.reduceMul, Nat.reduceEqDiff, Nat.reduceBEq, Nat.reduceLeDiff, Int.reduceToNat, Int.reduceLT, Int.reduceLE, Int.reduceEq, reduceCtorEq, ↓reduceIte, i41, c41, b1, w3]
-- f60 spec.l12To
theorem call60 (args : List AV) (S : St) : evCall T (evFL T) 60 args S = lendC (evFL T 60) S (lendAll S [[0, 0, 0, 0, 0], [0]] args) := evCall0 fn60 rfl rfl args S
theorem callz60 (args : List AV) (S : St) : evCallFz T (evFL T) 60 args S = lendZ (evFL T 60) S [[0, 0, 0, 0, 0]] (lendAll S [[0, 0, 0, 0, 0], [0]] args) := evCallFz0 fn60 rfl rfl args S
attribute [go_sem] call60 callz60
theorem e60 (a0 : Session) (a1 : Int) (r : Session) (h : m60 a0 a1 = some r) : evFL T 60 [.agg [.int .i64 a0.state, .int .i64 a0.hold, .int .i64 a0.left, .int .i64 a0.quiet, .int .i64 a0.ups], .int .i64 a1] [] = some (.agg [.int .i64 r.state, .int .i64 r.hold, .int .i64 r.left, .int .i64 r.quiet, .int .i64 r.ups], []) := by
  unfold m60 at h
  rw [evFL_at fn60 (Nat.le_of_ble_eq_true rfl) rfl (.inr rfl)]
  cases h
  simp -implicitDefEqProofs only [go_sem, Nat.reduceLT, Nat.reduceAdd, Nat.reduceSub, Nat.reduceMul, Nat.reduceEqDiff, Nat.reduceBEq, Nat.reduceLeDiff, Int.reduceToNat, Int.reduceLT, Int.reduceLE, Int.reduceEq, reduceCtorEq, ↓reduceIte, i60, c60]
-- f49 spec.l12Tick
theorem call49 (args : List AV) (S : St) : evCall T (evFL T) 49 args S = lendC (evFL T 49) S (lendAll S [[0, 0, 0, 0, 0]] args) := evCall0 fn49 rfl rfl args S
theorem callz49 (args : List AV) (S : St) : evCallFz T (evFL T) 49 args S = lendZ (evFL T 49) S [[0, 0, 0, 0, 0], [1]] (lendAll S [[0, 0, 0, 0, 0]] args) := evCallFz0 fn49 rfl rfl args S
attribute [go_sem] call49 callz49
theorem e49 (a0 : Session) (r : (Session × (List Int))) (h : m49 a0 = some r) : evFL T 49 [.agg [.int .i64 a0.state, .int .i64 a0.hold, .int .i64 a0.left, .int .i64 a0.quiet, .int .i64 a0.ups]] [] = some (.tup [.agg [.int .i64 r.1.state, .int .i64 r.1.hold, .int .i64 r.1.left, .int .i64 r.1.quiet, .int .i64 r.1.ups], .sl 0 0 r.2.length], [some ⟨.arr, 1, r.2.map encInt⟩]) := by
  unfold m49 at h
  rw [evFL_at fn49 (Nat.le_of_ble_eq_true rfl) rfl (.inr rfl)]
  try simp -implicitDefEqProofs only [go_sem, Nat.reduceLT, Nat.reduceAdd, Nat.reduceSub, Nat.reduceMul, Nat.reduceEqDiff, Nat.reduceBEq, Nat.reduceLeDiff, Int.reduceToNat, Int.reduceLT, Int.reduceLE, Int.reduceEq, reduceCtorEq, ↓reduceIte, i49, c49]
  cases b1 : (ltI a0.state 2 : Bool)
  · replace h := br_f b1 h
    try simp -implicitDefEqProofs only [go_sem, Nat.reduceLT, Nat.reduceAdd, Nat.reduceSub, Nat.reduceMul, Nat.reduceEqDiff, Nat.reduceBEq, Nat.reduceLeDiff, Int.reduceToNat, Int.reduceLT, Int.reduceLE, Int.reduceEq, reduceCtorEq, ↓reduceIte, i49, c49, b1]
    cases b2 : (eqI (wsub .i64 a0.left 1) 0 : Bool)
    · replace h := br_f b2 h
      try simp -implicitDefEqProofs only [go_sem, Nat.reduceLT, Nat.reduceAdd, Nat.reduceSub, Nat.reduceMul, Nat.reduceEqDiff, Nat.reduceBEq, Nat.reduceLeDiff, Int.reduceToNat, Int.reduceLT, Int.reduceLE, Int.reduceEq, reduceCtorEq, ↓reduceIte, i49, c49, b1, b2]
      cases b6 : (eqI a0.state 2 : Bool)
      · replace h := br_f b6 h
        try simp -implicitDefEqProofs only [go_sem, Nat.reduceLT, Nat.reduceAdd, Nat.reduceSub, Nat.reduceMul, Nat.reduceEqDiff, Nat.reduceBEq, Nat.reduceLeDiff, Int.reduceToNat, Int.reduceLT, Int.reduceLE, Int.reduceEq, reduceCtorEq, ↓reduceIte, i49, c49, b1, b2, b6]
        cases b7 : (eqI (wsub .i64 a0.quiet 1) 0 : Bool)
        · replace h := br_f b7 h
          cases h
          simp -implicitDefEqProofs only [go_sem, Nat.reduceLT, Nat.reduceAdd, Nat.reduceSub, Nat.reduceMul, Nat.reduceEqDiff, Nat.reduceBEq, Nat.reduceLeDiff, Int.reduceToNat, Int.reduceLT, Int.reduceLE, Int.reduceEq, reduceCtorEq, ↓reduceIte, i49, c49, b1, b2, b6, b7]
        · replace h := br_t b7 h
          cases h
          simp -implicitDefEqProofs only [go_sem, Nat.reduceLT, Nat.reduceAdd, Nat.reduceSub, Nat.reduceMul, Nat.reduceEqDiff, Nat.reduceBEq, Nat.reduceLeDiff, Int.reduceToNat, Int.reduceLT, Int.reduceLE, Int.reduceEq, reduceCtorEq, ↓reduceIte, i49, c49, b1, b2, b6, b7]
      · replace h := br_t b6 h
        cases h
        simp -implicitDefEqProofs only [go_sem, Nat.reduceLT, Nat.reduceAdd, Nat.reduceSub, Nat.reduceMul, Nat.reduceEqDiff, Nat.reduceBEq, Nat.reduceLeDiff, Int.reduceToNat, Int.reduceLT, Int.reduceLE, Int.reduceEq, reduceCtorEq, ↓reduceIte, i49, c49, b1, b2, b6]
    · replace h := br_t b2 h
      obtain ⟨r5, q3, h⟩ := bnd_some h
      have w4 := e60 (⟨a0.state, a0.hold, wsub .i64 a0.left 1, a0.quiet, a0.ups⟩ : Session) 0 r5 q3
      try simp -implicitDefEqProofs only [go_sem, Nat.reduceLT, Nat.reduceAdd, Nat.reduceSub, Nat.reduceMul, Nat.reduceEqDiff, Nat.reduceBEq, Nat.reduceLeDiff, Int.reduceToNat, Int.reduceLT, Int.reduceLE, Int.reduceEq, reduceCtorEq, ↓reduceIte] at w4
      cases h
      simp -implicitDefEqProofs only [go_sem, Nat.reduceLT, Nat.reduceAdd, Nat.reduceSub, Nat.reduceMul, Nat.reduceEqDiff, Nat.reduceBEq, Nat.reduceLeDiff, Int.reduceToNat, Int.reduceLT, Int.reduceLE, Int.reduceEq, reduceCtorEq, ↓reduceIte, i49, c49, b1, b2, w4]
  · replace h := br_t b1 h
    cases h
    simp -implicitDefEqProofs only [go_sem, Nat.reduceLT, Nat.reduceAdd, Nat.reduceSub, Nat.reduceMul, Nat.reduceEqDiff, Nat.reduceBEq, Nat.reduceLeDiff, Int.reduceToNat, Int.reduceLT, Int.reduceLE, Int.reduceEq, reduceCtorEq, ↓reduceIte, i49, c49, b1]
-- f42 spec.l12Step
def X42_1 (p6 : Bool) (a0 : Session) (a1 : Evt) (o : Bool) : Ex × Fr × St :=
  (.normal, frOf 144 (upd (upd (upd (upd (upd anyF 2 (.ptr 0 0 0)) 3 (.ptr 1 0 0)) 4 (.ptr 2 0 0)) 6 (.bool p6)) 18 (.bool o)), [some ⟨.box, 5, [[.int .i64 a0.state, .int .i64 a0.hold, .int .i64 a0.left, .int .i64 a0.quiet, .int .i64 a0.ups]]⟩, some ⟨.box, 2, [[.int .i64 a1.kind, .int .i64 a1.n]]⟩, some ⟨.box, 5, [[.int .i64 0, .int .i64 0, .int .i64 0, .int .i64 0, .int .i64 0]]⟩])
theorem e42_1 (p6 : Bool) (a0 : Session) (a1 : Evt) (o : Bool) (h : m42_1 a0 a1 = some o) : evCL T 0 k42_1 (frOf 144 (upd (upd (upd (upd anyF 2 (.ptr 0 0 0)) 3 (.ptr 1 0 0)) 4 (.ptr 2 0 0)) 6 (.bool p6))) [some ⟨.box, 5, [[.int .i64 a0.state, .int .i64 a0.hold, .int .i64 a0.left, .int .i64 a0.quiet, .int .i64 a0.ups]]⟩, some ⟨.box, 2, [[.int .i64 a1.kind, .int .i64 a1.n]]⟩, some ⟨.box, 5, [[.int .i64 0, .int .i64 0, .int .i64 0, .int .i64 0, .int .i64 0]]⟩] = some (X42_1 p6 a0 a1 o) := by
  unfold m42_1 at h
  try simp -implicitDefEqProofs only [go_sem, Nat.reduceLT, Nat.reduceAdd, Nat.reduceSub, Nat.reduceMul, Nat.reduceEqDiff, Nat.reduceBEq, Nat.reduceLeDiff, Int.reduceToNat, Int.reduceLT, Int.reduceLE, Int.reduceEq, reduceCtorEq, ↓reduceIte, X42_1, k42_1]
  cases b7 : (eqI a1.kind 1 : Bool)
  · replace h := br_f b7 h
    cases h
    simp -implicitDefEqProofs only [go_sem, Nat.reduceLT, Nat.reduceAdd, Nat.reduceSub, Nat.reduceMul, Nat.reduceEqDiff, Nat.reduceBEq, Nat.reduceLeDiff, Int.reduceToNat, Int.reduceLT, Int.reduceLE, Int.reduceEq, reduceCtorEq, ↓reduceIte, X42_1, k42_1, b7]
  · replace h := br_t b7 h
    cases h
    simp -implicitDefEqProofs only [go_sem, Nat.reduceLT, Nat.reduceAdd, Nat.reduceSub, Nat.reduceMul, Nat.reduceEqDiff, Nat.reduceBEq, Nat.reduceLeDiff, Int.reduceToNat, Int.reduceLT, Int.reduceLE, Int.reduceEq, reduceCtorEq, ↓reduceIte, X42_1, k42_1, b7]
def X42_2 (p15 : Bool) (a0 : Session) (a1 : Evt) (o : Bool) : Ex × Fr × St :=
  (.normal, frOf 144 (upd (upd (upd (upd (upd anyF 2 (.ptr 0 0 0)) 3 (.ptr 1 0 0)) 4 (.ptr 2 0 0)) 6 (.bool p15)) 29 (.bool o)), [some ⟨.box, 5, [[.int .i64 a0.state, .int .i64 a0.hold, .int .i64 a0.left, .int .i64 a0.quiet, .int .i64 a0.ups]]⟩, some ⟨.box, 2, [[.int .i64 a1.kind, .int .i64 a1.n]]⟩, some ⟨.box, 5, [[.int .i64 0, .int .i64 0, .int .i64 0, .int .i64 0, .int .i64 0]]⟩])
theorem e42_2 (p15 : Bool) (a0 : Session) (a1 : Evt) (o : Bool) (h : m42_2 a0 a1 = some o) : evCL T 0 k42_2 (frOf 144 (upd (upd (upd (upd anyF 2 (.ptr 0 0 0)) 3 (.ptr 1 0 0)) 4 (.ptr 2 0 0)) 6 (.bool p15))) [some ⟨.box, 5, [[.int .i64 a0.state, .int .i64 a0.hold, .int .i64 a0.left, .int .i64 a0.quiet, .int .i64 a0.ups]]⟩, some ⟨.box, 2, [[.int .i64 a1.kind, .int .i64 a1.n]]⟩, some ⟨.box, 5, [[.int .i64 0, .int .i64 0, .int .i64 0, .int .i64 0, .int .i64 0]]⟩] = some (X42_2 p15 a0 a1 o) := by
  unfold m42_2 at h
  try simp -implicitDefEqProofs only [go_sem, Nat.reduceLT, Nat.reduceAdd, Nat.reduceSub, Nat.reduceMul, Nat.reduceEqDiff, Nat.reduceBEq, Nat.reduceLeDiff, Int.reduceToNat, Int.reduceLT, Int.reduceLE, Int.reduceEq, reduceCtorEq, ↓reduceIte, X42_2, k42_2]
  cases b16 : (eqI a1.kind 3 : Bool)
  · replace h := br_f b16 h
    cases h
    simp -implicitDefEqProofs only [go_sem, Nat.reduceLT, Nat.reduceAdd, Nat.reduceSub, Nat.reduceMul, Nat.reduceEqDiff, Nat.reduceBEq, Nat.reduceLeDiff, Int.reduceToNat, Int.reduceLT, Int.reduceLE, Int.reduceEq, reduceCtorEq, ↓reduceIte, X42_2, k42_2, b16]
  · replace h := br_t b16 h
    cases h
    simp -implicitDefEqProofs only [go_sem, Nat.reduceLT, Nat.reduceAdd, Nat.reduceSub, Nat.reduceMul, Nat.reduceEqDiff, Nat.reduceBEq, Nat.reduceLeDiff, Int.reduceToNat, Int.reduceLT, Int.reduceLE, Int.reduceEq, reduceCtorEq, ↓reduceIte, X42_2, k42_2, b16]
def X42_3 (p24 : Bool) (a0 : Session) (a1 : Evt) (o : Bool) : Ex × Fr × St :=
  (.normal, frOf 144 (upd (upd (upd (upd (upd anyF 2 (.ptr 0 0 0)) 3 (.ptr 1 0 0)) 4 (.ptr 2 0 0)) 6 (.bool p24)) 43 (.bool o)), [some ⟨.box, 5, [[.int .i64 a0.state, .int .i64 a0.hold, .int .i64 a0.left, .int .i64 a0.quiet, .int .i64 a0.ups]]⟩, some ⟨.box, 2, [[.int .i64 a1.kind, .int .i64 a1.n]]⟩, some ⟨.box, 5, [[.int .i64 0, .int .i64 0, .int .i64 0, .int .i64 0, .int .i64 0]]⟩])
theorem e42_3 (p24 : Bool) (a0 : Session) (a1 : Evt) (o : Bool) (h : m42_3 p24 a1 = some o) : evCL T 0 k42_3 (frOf 144 (upd (upd (upd (upd anyF 2 (.ptr 0 0 0)) 3 (.ptr 1 0 0)) 4 (.ptr 2 0 0)) 6 (.bool p24))) [some ⟨.box, 5, [[.int .i64 a0.state, .int .i64 a0.hold, .int .i64 a0.left, .int .i64 a0.quiet, .int .i64 a0.ups]]⟩, some ⟨.box, 2, [[.int .i64 a1.kind, .int .i64 a1.n]]⟩, some ⟨.box, 5, [[.int .i64 0, .int .i64 0, .int .i64 0, .int .i64 0, .int .i64 0]]⟩] = some (X42_3 p24 a0 a1 o) := by
  unfold m42_3 at h
  try simp -implicitDefEqProofs only [go_sem, Nat.reduceLT, Nat.reduceAdd, Nat.reduceSub, Nat.reduceMul, Nat.reduceEqDiff, Nat.reduceBEq, Nat.reduceLeDiff, Int.reduceToNat, Int.reduceLT, Int.reduceLE, Int.reduceEq, reduceCtorEq, ↓reduceIte, X42_3, k42_3]
  cases b25 : (eqI a1.kind 4 : Bool)
  · replace h := br_f b25 h
    cases h
    simp -implicitDefEqProofs only [go_sem, Nat.reduceLT, Nat.reduceAdd, Nat.reduceSub, Nat.reduceMul, Nat.reduceEqDiff, Nat.reduceBEq, Nat.reduceLeDiff, Int.reduceToNat, Int.reduceLT, Int.reduceLE, Int.reduceEq, reduceCtorEq, ↓reduceIte, X42_3, k42_3, b25]
  · replace h := br_t b25 h
    cases h
    simp -implicitDefEqProofs only [go_sem, Nat.reduceLT, Nat.reduceAdd, Nat.reduceSub, Nat.reduceMul, Nat.reduceEqDiff, Nat.reduceBEq, Nat.reduceLeDiff, Int.reduceToNat, Int.reduceLT, Int.reduceLE, Int.reduceEq, reduceCtorEq, ↓reduceIte, X42_3, k42_3, b25]
def X42_4 (p33 : Bool) (a0 : Session) (a1 : Evt) (o : Bool) : Ex × Fr × St :=
  (.normal, frOf 144 (upd (upd (upd (upd (upd anyF 2 (.ptr 0 0 0)) 3 (.ptr 1 0 0)) 4 (.ptr 2 0 0)) 6 (.bool p33)) 52 (.bool o)), [some ⟨.box, 5, [[.int .i64 a0.state, .int .i64 a0.hold, .int .i64 a0.left, .int .i64 a0.quiet, .int .i64 a0.ups]]⟩, some ⟨.box, 2, [[.int .i64 a1.kind, .int .i64 a1.n]]⟩, some ⟨.box, 5, [[.int .i64 0, .int .i64 0, .int .i64 0, .int .i64 0, .int .i64 0]]⟩])
theorem e42_4 (p33 : Bool) (a0 : Session) (a1 : Evt) (o : Bool) (h : m42_4 p33 a1 = some o) : evCL T 0 k42_4 (frOf 144 (upd (upd (upd (upd anyF 2 (.ptr 0 0 0)) 3 (.ptr 1 0 0)) 4 (.ptr 2 0 0)) 6 (.bool p33))) [some ⟨.box, 5, [[.int .i64 a0.state, .int .i64 a0.hold, .int .i64 a0.left, .int .i64 a0.quiet, .int .i64 a0.ups]]⟩, some ⟨.box, 2, [[.int .i64 a1.kind, .int .i64 a1.n]]⟩, some ⟨.box, 5, [[.int .i64 0, .int .i64 0, .int .i64 0, .int .i64 0, .int .i64 0]]⟩] = some (X42_4 p33 a0 a1 o) := by
  unfold m42_4 at h
  try simp -implicitDefEqProofs only [go_sem, Nat.reduceLT, Nat.reduceAdd, Nat.reduceSub, Nat.reduceMul, Nat.reduceEqDiff, Nat.reduceBEq, Nat.reduceLeDiff, Int.reduceToNat, Int.reduceLT, Int.reduceLE, Int.reduceEq, reduceCtorEq, ↓reduceIte, X42_4, k42_4]
  cases b34 : (eqI a1.kind 9 : Bool)
  · replace h := br_f b34 h
    cases h
    simp -implicitDefEqProofs only [go_sem, Nat.reduceLT, Nat.reduceAdd, Nat.reduceSub, Nat.reduceMul, Nat.reduceEqDiff, Nat.reduceBEq, Nat.reduceLeDiff, Int.reduceToNat, Int.reduceLT, Int.reduceLE, Int.reduceEq, reduceCtorEq, ↓reduceIte, X42_4, k42_4, b34]
  · replace h := br_t b34 h
    cases h
    simp -implicitDefEqProofs only [go_sem, Nat.reduceLT, Nat.reduceAdd, Nat.reduceSub, Nat.reduceMul, Nat.reduceEqDiff, Nat.reduceBEq, Nat.reduceLeDiff, Int.reduceToNat, Int.reduceLT, Int.reduceLE, Int.reduceEq, reduceCtorEq, ↓reduceIte, X42_4, k42_4, b34]
def X42_5 (p42 : Bool) (a0 : Session) (a1 : Evt) (o : Bool) : Ex × Fr × St :=
  (.normal, frOf 144 (upd (upd (upd (upd (upd anyF 2 (.ptr 0 0 0)) 3 (.ptr 1 0 0)) 4 (.ptr 2 0 0)) 6 (.bool p42)) 61 (.bool o)), [some ⟨.box, 5, [[.int .i64 a0.state, .int .i64 a0.hold, .int .i64 a0.left, .int .i64 a0.quiet, .int .i64 a0.ups]]⟩, some ⟨.box, 2, [[.int .i64 a1.kind, .int .i64 a1.n]]⟩, some ⟨.box, 5, [[.int .i64 0, .int .i64 0, .int .i64 0, .int .i64 0, .int .i64 0]]⟩])
theorem e42_5 (p42 : Bool) (a0 : Session) (a1 : Evt) (o : Bool) (h : m42_5 p42 a1 = some o) : evCL T 0 k42_5 (frOf 144 (upd (upd (upd (upd anyF 2 (.ptr 0 0 0)) 3 (.ptr 1 0 0)) 4 (.ptr 2 0 0)) 6 (.bool p42))) [some ⟨.box, 5, [[.int .i64 a0.state, .int .i64 a0.hold, .int .i64 a0.left, .int .i64 a0.quiet, .int .i64 a0.ups]]⟩, some ⟨.box, 2, [[.int .i64 a1.kind, .int .i64 a1.n]]⟩, some ⟨.box, 5, [[.int .i64 0, .int .i64 0, .int .i64 0, .int .i64 0, .int .i64 0]]⟩] = some (X42_5 p42 a0 a1 o) := by
  unfold m42_5 at h
  try simp -implicitDefEqProofs only [go_sem, Nat.reduceLT, Nat.reduceAdd, Nat.reduceSub, Nat.reduceMul, Nat.reduceEqDiff, Nat.reduceBEq, Nat.reduceLeDiff, Int.reduceToNat, Int.reduceLT, Int.reduceLE, Int.reduceEq, reduceCtorEq, ↓reduceIte, X42_5, k42_5]
  cases b43 : (eqI a1.kind 2 : Bool)
  · replace h := br_f b43 h
    cases h
    simp -implicitDefEqProofs only [go_sem, Nat.reduceLT, Nat.reduceAdd, Nat.reduceSub, Nat.reduceMul, Nat.reduceEqDiff, Nat.reduceBEq, Nat.reduceLeDiff, Int.reduceToNat, Int.reduceLT, Int.reduceLE, Int.reduceEq, reduceCtorEq, ↓reduceIte, X42_5, k42_5, b43]
  · replace h := br_t b43 h
    cases h
    simp -implicitDefEqProofs only [go_sem, Nat.reduceLT, Nat.reduceAdd, Nat.reduceSub, Nat.reduceMul, Nat.reduceEqDiff, Nat.reduceBEq, Nat.reduceLeDiff, Int.reduceToNat, Int.reduceLT, Int.reduceLE, Int.reduceEq, reduceCtorEq, ↓reduceIte, X42_5, k42_5, b43]
def X42_6 (a0 : Session) (a1 : Evt) (o : Bool) : Ex × Fr × St :=
  (.normal, frOf 144 (upd (upd (upd (upd anyF 2 (.ptr 0 0 0)) 3 (.ptr 1 0 0)) 4 (.ptr 2 0 0)) 75 (.bool o)), [some ⟨.box, 5, [[.int .i64 a0.state, .int .i64 a0.hold, .int .i64 a0.left, .int .i64 a0.quiet, .int .i64 a0.ups]]⟩, some ⟨.box, 2, [[.int .i64 a1.kind, .int .i64 a1.n]]⟩, some ⟨.box, 5, [[.int .i64 0, .int .i64 0, .int .i64 0, .int .i64 0, .int .i64 0]]⟩])
theorem e42_6 (a0 : Session) (a1 : Evt) (o : Bool) (h : m42_6 a0 a1 = some o) : evCL T 0 k42_6 (frOf 144 (upd (upd (upd anyF 2 (.ptr 0 0 0)) 3 (.ptr 1 0 0)) 4 (.ptr 2 0 0))) [some ⟨.box, 5, [[.int .i64 a0.state, .int .i64 a0.hold, .int .i64 a0.left, .int .i64 a0.quiet, .int .i64 a0.ups]]⟩, some ⟨.box, 2, [[.int .i64 a1.kind, .int .i64 a1.n]]⟩, some ⟨.box, 5, [[.int .i64 0, .int .i64 0, .int .i64 0, .int .i64 0, .int .i64 0]]⟩] = some (X42_6 a0 a1 o) := by
  unfold m42_6 at h
  try simp -implicitDefEqProofs only [go_sem, Nat.reduceLT, Nat.reduceAdd, Nat.reduceSub, Nat.reduceMul, Nat.reduceEqDiff, Nat.reduceBEq, Nat.reduceLeDiff, Int.reduceToNat, Int.reduceLT, Int.reduceLE, Int.reduceEq, reduceCtorEq, ↓reduceIte, X42_6, k42_6]
  cases b52 : (eqI a1.kind 5 : Bool)
  · replace h := br_f b52 h
    cases h
    simp -implicitDefEqProofs only [go_sem, Nat.reduceLT, Nat.reduceAdd, Nat.reduceSub, Nat.reduceMul, Nat.reduceEqDiff, Nat.reduceBEq, Nat.reduceLeDiff, Int.reduceToNat, Int.reduceLT, Int.reduceLE, Int.reduceEq, reduceCtorEq, ↓reduceIte, X42_6, k42_6, b52]
  · replace h := br_t b52 h
    try simp -implicitDefEqProofs only [go_sem, Nat.reduceLT, Nat.reduceAdd, Nat.reduceSub, Nat.reduceMul, Nat.reduceEqDiff, Nat.reduceBEq, Nat.reduceLeDiff, Int.reduceToNat, Int.reduceLT, Int.reduceLE, Int.reduceEq, reduceCtorEq, ↓reduceIte, X42_6, k42_6, b52]
    cases b53 : (eqI a0.state 2 : Bool)
    · replace h := br_f b53 h
      cases h
      simp -implicitDefEqProofs only [go_sem, Nat.reduceLT, Nat.reduceAdd, Nat.reduceSub, Nat.reduceMul, Nat.reduceEqDiff, Nat.reduceBEq, Nat.reduceLeDiff, Int.reduceToNat, Int.reduceLT, Int.reduceLE, Int.reduceEq, reduceCtorEq, ↓reduceIte, X42_6, k42_6, b52, b53]
    · replace h := br_t b53 h
      cases h
      simp -implicitDefEqProofs only [go_sem, Nat.reduceLT, Nat.reduceAdd, Nat.reduceSub, Nat.reduceMul, Nat.reduceEqDiff, Nat.reduceBEq, Nat.reduceLeDiff, Int.reduceToNat, Int.reduceLT, Int.reduceLE, Int.reduceEq, reduceCtorEq, ↓reduceIte, X42_6, k42_6, b52, b53]
def X42_7 (p58 : Bool) (a0 : Session) (a1 : Evt) (o : Int) : Ex × Fr × St :=
  (.normal, frOf 144 (upd (upd anyF 2 (.ptr 0 0 0)) 4 (.ptr 1 0 0)), [some ⟨.box, 5, [[.int .i64 3, .int .i64 o, .int .i64 a0.left, .int .i64 a0.quiet, .int .i64 a0.ups]]⟩, some ⟨.box, 5, [[.int .i64 0, .int .i64 0, .int .i64 0, .int .i64 0, .int .i64 0]]⟩])
theorem e42_7 (p58 : Bool) (a0 : Session) (a1 : Evt) (o : Int) (h : m42_7 p58 a0 a1 = some o) : evCL T 0 k42_7 (frOf 144 (upd (upd (upd (upd anyF 2 (.ptr 0 0 0)) 3 (.ptr 1 0 0)) 4 (.ptr 2 0 0)) 94 (.bool p58))) [some ⟨.box, 5, [[.int .i64 3, .int .i64 a0.hold, .int .i64 a0.left, .int .i64 a0.quiet, .int .i64 a0.ups]]⟩, some ⟨.box, 2, [[.int .i64 a1.kind, .int .i64 a1.n]]⟩, some ⟨.box, 5, [[.int .i64 0, .int .i64 0, .int .i64 0, .int .i64 0, .int .i64 0]]⟩] = some (X42_7 p58 a0 a1 o) := by
  unfold m42_7 at h
  try simp -implicitDefEqProofs only [go_sem, Nat.reduceLT, Nat.reduceAdd, Nat.reduceSub, Nat.reduceMul, Nat.reduceEqDiff, Nat.reduceBEq, Nat.reduceLeDiff, Int.reduceToNat, Int.reduceLT, Int.reduceLE, Int.reduceEq, reduceCtorEq, ↓reduceIte, X42_7, k42_7]
  cases b59 : (p58 : Bool)
  · replace h := br_f b59 h
    cases h
    simp -implicitDefEqProofs only [go_sem, Nat.reduceLT, Nat.reduceAdd, Nat.reduceSub, Nat.reduceMul, Nat.reduceEqDiff, Nat.reduceBEq, Nat.reduceLeDiff, Int.reduceToNat, Int.reduceLT, Int.reduceLE, Int.reduceEq, reduceCtorEq, ↓reduceIte, X42_7, k42_7, b59]
  · replace h := br_t b59 h
    cases h
    simp -implicitDefEqProofs only [go_sem, Nat.reduceLT, Nat.reduceAdd, Nat.reduceSub, Nat.reduceMul, Nat.reduceEqDiff, Nat.reduceBEq, Nat.reduceLeDiff, Int.reduceToNat, Int.reduceLT, Int.reduceLE, Int.reduceEq, reduceCtorEq, ↓reduceIte, X42_7, k42_7, b59]
def X42_8 (a0 : Session) (a1 : Evt) (o : Bool) : Ex × Fr × St :=
  (.normal, frOf 144 (upd (upd (upd (upd anyF 2 (.ptr 0 0 0)) 3 (.ptr 1 0 0)) 4 (.ptr 2 0 0)) 107 (.bool o)), [some ⟨.box, 5, [[.int .i64 a0.state, .int .i64 a0.hold, .int .i64 a0.left, .int .i64 a0.quiet, .int .i64 a0.ups]]⟩, some ⟨.box, 2, [[.int .i64 a1.kind, .int .i64 a1.n]]⟩, some ⟨.box, 5, [[.int .i64 0, .int .i64 0, .int .i64 0, .int .i64 0, .int .i64 0]]⟩])
theorem e42_8 (a0 : Session) (a1 : Evt) (o : Bool) (h : m42_8 a0 a1 = some o) : evCL T 0 k42_8 (frOf 144 (upd (upd (upd anyF 2 (.ptr 0 0 0)) 3 (.ptr 1 0 0)) 4 (.ptr 2 0 0))) [some ⟨.box, 5, [[.int .i64 a0.state, .int .i64 a0.hold, .int .i64 a0.left, .int .i64 a0.quiet, .int .i64 a0.ups]]⟩, some ⟨.box, 2, [[.int .i64 a1.kind, .int .i64 a1.n]]⟩, some ⟨.box, 5, [[.int .i64 0, .int .i64 0, .int .i64 0, .int .i64 0, .int .i64 0]]⟩] = some (X42_8 a0 a1 o) := by
  unfold m42_8 at h
  try simp -implicitDefEqProofs only [go_sem, Nat.reduceLT, Nat.reduceAdd, Nat.reduceSub, Nat.reduceMul, Nat.reduceEqDiff, Nat.reduceBEq, Nat.reduceLeDiff, Int.reduceToNat, Int.reduceLT, Int.reduceLE, Int.reduceEq, reduceCtorEq, ↓reduceIte, X42_8, k42_8]
  cases b63 : (eqI a1.kind 7 : Bool)
  · replace h := br_f b63 h
    cases h
    simp -implicitDefEqProofs only [go_sem, Nat.reduceLT, Nat.reduceAdd, Nat.reduceSub, Nat.reduceMul, Nat.reduceEqDiff, Nat.reduceBEq, Nat.reduceLeDiff, Int.reduceToNat, Int.reduceLT, Int.reduceLE, Int.reduceEq, reduceCtorEq, ↓reduceIte, X42_8, k42_8, b63]
  · replace h := br_t b63 h
    cases h
    simp -implicitDefEqProofs only [go_sem, Nat.reduceLT, Nat.reduceAdd, Nat.reduceSub, Nat.reduceMul, Nat.reduceEqDiff, Nat.reduceBEq, Nat.reduceLeDiff, Int.reduceToNat, Int.reduceLT, Int.reduceLE, Int.reduceEq, reduceCtorEq, ↓reduceIte, X42_8, k42_8, b63]
def X42_10 (a0 : Session) (a1 : Evt) (o : Bool) : Ex × Fr × St :=
  (.normal, frOf 144 (upd (upd (upd anyF 2 (.ptr 0 0 0)) 4 (.ptr 1 0 0)) 107 (.bool o)), [some ⟨.box, 5, [[.int .i64 a0.state, .int .i64 a0.hold, .int .i64 a0.left, .int .i64 a0.quiet, .int .i64 a0.ups]]⟩, some ⟨.box, 5, [[.int .i64 0, .int .i64 0, .int .i64 0, .int .i64 0, .int .i64 0]]⟩])
theorem e42_10 (a0 : Session) (a1 : Evt) (o : Bool) (h : m42_10 a0 a1 = some o) : evCL T 0 k42_10 (frOf 144 (upd (upd (upd anyF 2 (.ptr 0 0 0)) 3 (.ptr 1 0 0)) 4 (.ptr 2 0 0))) [some ⟨.box, 5, [[.int .i64 a0.state, .int .i64 a0.hold, .int .i64 a0.left, .int .i64 a0.quiet, .int .i64 a0.ups]]⟩, some ⟨.box, 2, [[.int .i64 a1.kind, .int .i64 a1.n]]⟩, some ⟨.box, 5, [[.int .i64 0, .int .i64 0, .int .i64 0, .int .i64 0, .int .i64 0]]⟩] = some (X42_10 a0 a1 o) := by
  unfold m42_10 at h
  try simp -implicitDefEqProofs only [go_sem, Nat.reduceLT, Nat.reduceAdd, Nat.reduceSub, Nat.reduceMul, Nat.reduceEqDiff, Nat.reduceBEq, Nat.reduceLeDiff, Int.reduceToNat, Int.reduceLT, Int.reduceLE, Int.reduceEq, reduceCtorEq, ↓reduceIte, X42_10, k42_10]
  cases b68 : (eqI a1.kind 8 : Bool)
  · replace h := br_f b68 h
    cases h
    simp -implicitDefEqProofs only [go_sem, Nat.reduceLT, Nat.reduceAdd, Nat.reduceSub, Nat.reduceMul, Nat.reduceEqDiff, Nat.reduceBEq, Nat.reduceLeDiff, Int.reduceToNat, Int.reduceLT, Int.reduceLE, Int.reduceEq, reduceCtorEq, ↓reduceIte, X42_10, k42_10, b68]
  · replace h := br_t b68 h
    cases h
    simp -implicitDefEqProofs only [go_sem, Nat.reduceLT, Nat.reduceAdd, Nat.reduceSub, Nat.reduceMul, Nat.reduceEqDiff, Nat.reduceBEq, Nat.reduceLeDiff, Int.reduceToNat, Int.reduceLT, Int.reduceLE, Int.reduceEq, reduceCtorEq, ↓reduceIte, X42_10, k42_10, b68]
def X42_9 (v66 : Bool) (a0 : Session) (a1 : Evt) (o : Bool) : Ex × Fr × St :=
  (.normal, frOf 144 (upd (upd (upd anyF 2 (.ptr 0 0 0)) 4 (.ptr 1 0 0)) 107 (.bool o)), [some ⟨.box, 5, [[.int .i64 a0.state, .int .i64 a0.hold, .int .i64 a0.left, .int .i64 a0.quiet, .int .i64 a0.ups]]⟩, some ⟨.box, 5, [[.int .i64 0, .int .i64 0, .int .i64 0, .int .i64 0, .int .i64 0]]⟩])
theorem e42_9 (v66 : Bool) (a0 : Session) (a1 : Evt) (o : Bool) (h : m42_9 v66 a0 a1 = some o) : evCL T 0 k42_9 (frOf 144 (upd (upd (upd (upd anyF 2 (.ptr 0 0 0)) 3 (.ptr 1 0 0)) 4 (.ptr 2 0 0)) 107 (.bool v66))) [some ⟨.box, 5, [[.int .i64 a0.state, .int .i64 a0.hold, .int .i64 a0.left, .int .i64 a0.quiet, .int .i64 a0.ups]]⟩, some ⟨.box, 2, [[.int .i64 a1.kind, .int .i64 a1.n]]⟩, some ⟨.box, 5, [[.int .i64 0, .int .i64 0, .int .i64 0, .int .i64 0, .int .i64 0]]⟩] = some (X42_9 v66 a0 a1 o) := by
  unfold m42_9 at h
  try simp -implicitDefEqProofs only [go_sem, Nat.reduceLT, Nat.reduceAdd, Nat.reduceSub, Nat.reduceMul, Nat.reduceEqDiff, Nat.reduceBEq, Nat.reduceLeDiff, Int.reduceToNat, Int.reduceLT, Int.reduceLE, Int.reduceEq, reduceCtorEq, ↓reduceIte, X42_9, k42_9]
  cases b67 : (v66 : Bool)
  · replace h := br_f b67 h
    obtain ⟨v71, q69, h⟩ := bnd_some h
    have w70 := e42_10 a0 a1 v71 q69
    simp only [X42_10] at w70
    try simp -implicitDefEqProofs only [go_sem, Nat.reduceLT, Nat.reduceAdd, Nat.reduceSub, Nat.reduceMul, Nat.reduceEqDiff, Nat.reduceBEq, Nat.reduceLeDiff, Int.reduceToNat, Int.reduceLT, Int.reduceLE, Int.reduceEq, reduceCtorEq, ↓reduceIte] at w70
    cases h
    simp -implicitDefEqProofs only [go_sem, Nat.reduceLT, Nat.reduceAdd, Nat.reduceSub, Nat.reduceMul, Nat.reduceEqDiff, Nat.reduceBEq, Nat.reduceLeDiff, Int.reduceToNat, Int.reduceLT, Int.reduceLE, Int.reduceEq, reduceCtorEq, ↓reduceIte, X42_9, k42_9, b67, w70]
  · replace h := br_t b67 h
    cases h
    simp -implicitDefEqProofs only [go_sem, Nat.reduceLT, Nat.reduceAdd, Nat.reduceSub, Nat.reduceMul, Nat.reduceEqDiff, Nat.reduceBEq, Nat.reduceLeDiff, Int.reduceToNat, Int.reduceLT, Int.reduceLE, Int.reduceEq, reduceCtorEq, ↓reduceIte, X42_9, k42_9, b67]
def X42_11 (a0 : Session) (o : Bool) : Ex × Fr × St :=
  (.normal, frOf 144 (upd (upd (upd anyF 2 (.ptr 0 0 0)) 4 (.ptr 1 0 0)) 131 (.bool o)), [some ⟨.box, 5, [[.int .i64 a0.state, .int .i64 a0.hold, .int .i64 a0.left, .int .i64 a0.quiet, .int .i64 a0.ups]]⟩, some ⟨.box, 5, [[.int .i64 0, .int .i64 0, .int .i64 0, .int .i64 0, .int .i64 0]]⟩])
theorem e42_11 (a0 : Session) (o : Bool) (h : m42_11 a0 = some o) : evCL T 0 k42_11 (frOf 144 (upd (upd anyF 2 (.ptr 0 0 0)) 4 (.ptr 1 0 0))) [some ⟨.box, 5, [[.int .i64 a0.state, .int .i64 a0.hold, .int .i64 a0.left, .int .i64 a0.quiet, .int .i64 a0.ups]]⟩, some ⟨.box, 5, [[.int .i64 0, .int .i64 0, .int .i64 0, .int .i64 0, .int .i64 0]]⟩] = some (X42_11 a0 o) := by
  unfold m42_11 at h
  try simp -implicitDefEqProofs only [go_sem, Nat.reduceLT, Nat.reduceAdd, Nat.reduceSub, Nat.reduceMul, Nat.reduceEqDiff, Nat.reduceBEq, Nat.reduceLeDiff, Int.reduceToNat, Int.reduceLT, Int.reduceLE, Int.reduceEq, reduceCtorEq, ↓reduceIte, X42_11, k42_11]
  cases b76 : (eqI a0.state 3 : Bool)
  · replace h := br_f b76 h
    cases h
    simp -implicitDefEqProofs only [go_sem, Nat.reduceLT, Nat.reduceAdd, Nat.reduceSub, Nat.reduceMul, Nat.reduceEqDiff, Nat.reduceBEq, Nat.reduceLeDiff, Int.reduceToNat, Int.reduceLT, Int.reduceLE, Int.reduceEq, reduceCtorEq, ↓reduceIte, X42_11, k42_11, b76]
  · replace h := br_t b76 h
    cases h
    simp -implicitDefEqProofs only [go_sem, Nat.reduceLT, Nat.reduceAdd, Nat.reduceSub, Nat.reduceMul, Nat.reduceEqDiff, Nat.reduceBEq, Nat.reduceLeDiff, Int.reduceToNat, Int.reduceLT, Int.reduceLE, Int.reduceEq, reduceCtorEq, ↓reduceIte, X42_11, k42_11, b76]
def X42_12 (v79 : Bool) (a0 : Session) (o : Int) : Ex × Fr × St :=
  (.normal, frOf 144 (upd (upd anyF 2 (.ptr 0 0 0)) 4 (.ptr 1 0 0)), [some ⟨.box, 5, [[.int .i64 a0.state, .int .i64 a0.hold, .int .i64 a0.left, .int .i64 a0.quiet, .int .i64 o]]⟩, some ⟨.box, 5, [[.int .i64 0, .int .i64 0, .int .i64 0, .int .i64 0, .int .i64 0]]⟩])
theorem e42_12 (v79 : Bool) (a0 : Session) (o : Int) (h : m42_12 v79 a0 = some o) : evCL T 0 k42_12 (frOf 144 (upd (upd (upd anyF 2 (.ptr 0 0 0)) 4 (.ptr 1 0 0)) 131 (.bool v79))) [some ⟨.box, 5, [[.int .i64 a0.state, .int .i64 a0.hold, .int .i64 a0.left, .int .i64 a0.quiet, .int .i64 a0.ups]]⟩, some ⟨.box, 5, [[.int .i64 0, .int .i64 0, .int .i64 0, .int .i64 0, .int .i64 0]]⟩] = some (X42_12 v79 a0 o) := by
  unfold m42_12 at h
  try simp -implicitDefEqProofs only [go_sem, Nat.reduceLT, Nat.reduceAdd, Nat.reduceSub, Nat.reduceMul, Nat.reduceEqDiff, Nat.reduceBEq, Nat.reduceLeDiff, Int.reduceToNat, Int.reduceLT, Int.reduceLE, Int.reduceEq, reduceCtorEq, ↓reduceIte, X42_12, k42_12]
  cases b80 : (v79 : Bool)
  · replace h := br_f b80 h
    cases h
    simp -implicitDefEqProofs only [go_sem, Nat.reduceLT, Nat.reduceAdd, Nat.reduceSub, Nat.reduceMul, Nat.reduceEqDiff, Nat.reduceBEq, Nat.reduceLeDiff, Int.reduceToNat, Int.reduceLT, Int.reduceLE, Int.reduceEq, reduceCtorEq, ↓reduceIte, X42_12, k42_12, b80]
  · replace h := br_t b80 h
    cases h
    simp -implicitDefEqProofs only [go_sem, Nat.reduceLT, Nat.reduceAdd, Nat.reduceSub, Nat.reduceMul, Nat.reduceEqDiff, Nat.reduceBEq, Nat.reduceLeDiff, Int.reduceToNat, Int.reduceLT, Int.reduceLE, Int.reduceEq, reduceCtorEq, ↓reduceIte, X42_12, k42_12, b80]
theorem call42 (args : List AV) (S : St) : evCall T (evFL T) 42 args S = lendC (evFL T 42) S (lendAll S [[0, 0, 0, 0, 0], [0, 0]] args) := evCall0 fn42 rfl rfl args S
theorem callz42 (args : List AV) (S : St) : evCallFz T (evFL T) 42 args S = lendZ (evFL T 42) S [[0, 0, 0, 0, 0], [1]] (lendAll S [[0, 0, 0, 0, 0], [0, 0]] args) := evCallFz0 fn42 rfl rfl args S
attribute [go_sem] call42 callz42
theorem e42 (a0 : Session) (a1 : Evt) (r : (Session × (List Int))) (h : m42 a0 a1 = some r) : evFL T 42 [.agg [.int .i64 a0.state, .int .i64 a0.hold, .int .i64 a0.left, .int .i64 a0.quiet, .int .i64 a0.ups], .agg [.int .i64 a1.kind, .int .i64 a1.n]] [] = some (.tup [.agg [.int .i64 r.1.state, .int .i64 r.1.hold, .int .i64 r.1.left, .int .i64 r.1.quiet, .int .i64 r.1.ups], .sl 0 0 r.2.length], [some ⟨.arr, 1, r.2.map encInt⟩]) := by
  unfold m42 at h
  rw [evFL_at fn42 (Nat.le_of_ble_eq_true rfl) rfl (.inr rfl)]
  try simp -implicitDefEqProofs only [go_sem, Nat.reduceLT, Nat.reduceAdd, Nat.reduceSub, Nat.reduceMul, Nat.reduceEqDiff, Nat.reduceBEq, Nat.reduceLeDiff, Int.reduceToNat, Int.reduceLT, Int.reduceLE, Int.reduceEq, reduceCtorEq, ↓reduceIte, i42, c42]
  cases b1 : (eqI a1.kind 10 : Bool)
  · replace h := br_f b1 h
    obtain ⟨v10, q8, h⟩ := bnd_some h
    have w9 := e42_1 (leI 2 a0.state) a0 a1 v10 q8
    simp only [X42_1] at w9
    try simp -implicitDefEqProofs only [go_sem, Nat.reduceLT, Nat.reduceAdd, Nat.reduceSub, Nat.reduceMul, Nat.reduceEqDiff, Nat.reduceBEq, Nat.reduceLeDiff, Int.reduceToNat, Int.reduceLT, Int.reduceLE, Int.reduceEq, reduceCtorEq, ↓reduceIte] at w9
    try simp -implicitDefEqProofs only [go_sem, Nat.reduceLT, Nat.reduceAdd, Nat.reduceSub, Nat.reduceMul, Nat.reduceEqDiff, Nat.reduceBEq, Nat.reduceLeDiff, Int.reduceToNat, Int.reduceLT, Int.reduceLE, Int.reduceEq, reduceCtorEq, ↓reduceIte, i42, c42, b1, w9]
    cases b11 : (v10 : Bool)
    · replace h := br_f b11 h
      obtain ⟨v19, q17, h⟩ := bnd_some h
      have w18 := e42_2 (leI 2 a0.state) a0 a1 v19 q17
      simp only [X42_2] at w18
      try simp -implicitDefEqProofs only [go_sem, Nat.reduceLT, Nat.reduceAdd, Nat.reduceSub, Nat.reduceMul, Nat.reduceEqDiff, Nat.reduceBEq, Nat.reduceLeDiff, Int.reduceToNat, Int.reduceLT, Int.reduceLE, Int.reduceEq, reduceCtorEq, ↓reduceIte] at w18
      try simp -implicitDefEqProofs only [go_sem, Nat.reduceLT, Nat.reduceAdd, Nat.reduceSub, Nat.reduceMul, Nat.reduceEqDiff, Nat.reduceBEq, Nat.reduceLeDiff, Int.reduceToNat, Int.reduceLT, Int.reduceLE, Int.reduceEq, reduceCtorEq, ↓reduceIte, i42, c42, b1, w9, b11, w18]
      cases b20 : (v19 : Bool)
      · replace h := br_f b20 h
        obtain ⟨v28, q26, h⟩ := bnd_some h
        have w27 := e42_3 (leI 2 a0.state) a0 a1 v28 q26
        simp only [X42_3] at w27
        try simp -implicitDefEqProofs only [go_sem, Nat.reduceLT, Nat.reduceAdd, Nat.reduceSub, Nat.reduceMul, Nat.reduceEqDiff, Nat.reduceBEq, Nat.reduceLeDiff, Int.reduceToNat, Int.reduceLT, Int.reduceLE, Int.reduceEq, reduceCtorEq, ↓reduceIte] at w27
        try simp -implicitDefEqProofs only [go_sem, Nat.reduceLT, Nat.reduceAdd, Nat.reduceSub, Nat.reduceMul, Nat.reduceEqDiff, Nat.reduceBEq, Nat.reduceLeDiff, Int.reduceToNat, Int.reduceLT, Int.reduceLE, Int.reduceEq, reduceCtorEq, ↓reduceIte, i42, c42, b1, w9, b11, w18, b20, w27]
        cases b29 : (v28 : Bool)
        · replace h := br_f b29 h
          obtain ⟨v37, q35, h⟩ := bnd_some h
          have w36 := e42_4 (leI 2 a0.state) a0 a1 v37 q35
          simp only [X42_4] at w36
          try simp -implicitDefEqProofs only [go_sem, Nat.reduceLT, Nat.reduceAdd, Nat.reduceSub, Nat.reduceMul, Nat.reduceEqDiff, Nat.reduceBEq, Nat.reduceLeDiff, Int.reduceToNat, Int.reduceLT, Int.reduceLE, Int.reduceEq, reduceCtorEq, ↓reduceIte] at w36
          try simp -implicitDefEqProofs only [go_sem, Nat.reduceLT, Nat.reduceAdd, Nat.reduceSub, Nat.reduceMul, Nat.reduceEqDiff, Nat.reduceBEq, Nat.reduceLeDiff, Int.reduceToNat, Int.reduceLT, Int.reduceLE, Int.reduceEq, reduceCtorEq, ↓reduceIte, i42, c42, b1, w9, b11, w18, b20, w27, b29, w36]
          cases b38 : (v37 : Bool)
          · replace h := br_f b38 h
            obtain ⟨v46, q44, h⟩ := bnd_some h
            have w45 := e42_5 (leI 2 a0.state) a0 a1 v46 q44
            simp only [X42_5] at w45
            try simp -implicitDefEqProofs only [go_sem, Nat.reduceLT, Nat.reduceAdd, Nat.reduceSub, Nat.reduceMul, Nat.reduceEqDiff, Nat.reduceBEq, Nat.reduceLeDiff, Int.reduceToNat, Int.reduceLT, Int.reduceLE, Int.reduceEq, reduceCtorEq, ↓reduceIte] at w45
            try simp -implicitDefEqProofs only [go_sem, Nat.reduceLT, Nat.reduceAdd, Nat.reduceSub, Nat.reduceMul, Nat.reduceEqDiff, Nat.reduceBEq, Nat.reduceLeDiff, Int.reduceToNat, Int.reduceLT, Int.reduceLE, Int.reduceEq, reduceCtorEq, ↓reduceIte, i42, c42, b1, w9, b11, w18, b20, w27, b29, w36, b38, w45]
            cases b47 : (v46 : Bool)
            · replace h := br_f b47 h
              try simp -implicitDefEqProofs only [go_sem, Nat.reduceLT, Nat.reduceAdd, Nat.reduceSub, Nat.reduceMul, Nat.reduceEqDiff, Nat.reduceBEq, Nat.reduceLeDiff, Int.reduceToNat, Int.reduceLT, Int.reduceLE, Int.reduceEq, reduceCtorEq, ↓reduceIte, i42, c42, b1, w9, b11, w18, b20, w27, b29, w36, b38, w45, b47]
              cases b51 : (leI 2 a0.state : Bool)
              · replace h := br_f b51 h
                cases h
                simp -implicitDefEqProofs only [go_sem, Nat.reduceLT, Nat.reduceAdd, Nat.reduceSub, Nat.reduceMul, Nat.reduceEqDiff, Nat.reduceBEq, Nat.reduceLeDiff, Int.reduceToNat, Int.reduceLT, Int.reduceLE, Int.reduceEq, reduceCtorEq, ↓reduceIte, i42, c42, b1, w9, b11, w18, b20, w27, b29, w36, b38, w45, b47, b51]
              · replace h := br_t b51 h
                obtain ⟨v56, q54, h⟩ := bnd_some h
                have w55 := e42_6 a0 a1 v56 q54
                simp only [X42_6] at w55
                try simp -implicitDefEqProofs only [go_sem, Nat.reduceLT, Nat.reduceAdd, Nat.reduceSub, Nat.reduceMul, Nat.reduceEqDiff, Nat.reduceBEq, Nat.reduceLeDiff, Int.reduceToNat, Int.reduceLT, Int.reduceLE, Int.reduceEq, reduceCtorEq, ↓reduceIte] at w55
                try simp -implicitDefEqProofs only [go_sem, Nat.reduceLT, Nat.reduceAdd, Nat.reduceSub, Nat.reduceMul, Nat.reduceEqDiff, Nat.reduceBEq, Nat.reduceLeDiff, Int.reduceToNat, Int.reduceLT, Int.reduceLE, Int.reduceEq, reduceCtorEq, ↓reduceIte, i42, c42, b1, w9, b11, w18, b20, w27, b29, w36, b38, w45, b47, b51, w55]
                cases b57 : (v56 : Bool)
                · replace h := br_f b57 h
                  obtain ⟨v66, q64, h⟩ := bnd_some h
                  have w65 := e42_8 a0 a1 v66 q64
                  simp only [X42_8] at w65
                  try simp -implicitDefEqProofs only [go_sem, Nat.reduceLT, Nat.reduceAdd, Nat.reduceSub, Nat.reduceMul, Nat.reduceEqDiff, Nat.reduceBEq, Nat.reduceLeDiff, Int.reduceToNat, Int.reduceLT, Int.reduceLE, Int.reduceEq, reduceCtorEq, ↓reduceIte] at w65
                  obtain ⟨v74, q72, h⟩ := bnd_some h
                  have w73 := e42_9 v66 a0 a1 v74 q72
                  simp only [X42_9] at w73
                  try simp -implicitDefEqProofs only [go_sem, Nat.reduceLT, Nat.reduceAdd, Nat.reduceSub, Nat.reduceMul, Nat.reduceEqDiff, Nat.reduceBEq, Nat.reduceLeDiff, Int.reduceToNat, Int.reduceLT, Int.reduceLE, Int.reduceEq, reduceCtorEq, ↓reduceIte] at w73
                  try simp -implicitDefEqProofs only [go_sem, Nat.reduceLT, Nat.reduceAdd, Nat.reduceSub, Nat.reduceMul, Nat.reduceEqDiff, Nat.reduceBEq, Nat.reduceLeDiff, Int.reduceToNat, Int.reduceLT, Int.reduceLE, Int.reduceEq, reduceCtorEq, ↓reduceIte, i42, c42, b1, w9, b11, w18, b20, w27, b29, w36, b38, w45, b47, b51, w55, b57, w65, w73]
                  cases b75 : (v74 : Bool)
                  · replace h := br_f b75 h
                    obtain ⟨r86, q84, h⟩ := bnd_some h
                    have w85 := e60 a0 0 r86 q84
                    try simp -implicitDefEqProofs only [go_sem, Nat.reduceLT, Nat.reduceAdd, Nat.reduceSub, Nat.reduceMul, Nat.reduceEqDiff, Nat.reduceBEq, Nat.reduceLeDiff, Int.reduceToNat, Int.reduceLT, Int.reduceLE, Int.reduceEq, reduceCtorEq, ↓reduceIte] at w85
                    cases h
                    simp -implicitDefEqProofs only [go_sem, Nat.reduceLT, Nat.reduceAdd, Nat.reduceSub, Nat.reduceMul, Nat.reduceEqDiff, Nat.reduceBEq, Nat.reduceLeDiff, Int.reduceToNat, Int.reduceLT, Int.reduceLE, Int.reduceEq, reduceCtorEq, ↓reduceIte, i42, c42, b1, w9, b11, w18, b20, w27, b29, w36, b38, w45, b47, b51, w55, b57, w65, w73, b75, w85]
                  · replace h := br_t b75 h
                    obtain ⟨v79, q77, h⟩ := bnd_some h
                    have w78 := e42_11 a0 v79 q77
                    simp only [X42_11] at w78
                    try simp -implicitDefEqProofs only [go_sem, Nat.reduceLT, Nat.reduceAdd, Nat.reduceSub, Nat.reduceMul, Nat.reduceEqDiff, Nat.reduceBEq, Nat.reduceLeDiff, Int.reduceToNat, Int.reduceLT, Int.reduceLE, Int.reduceEq, reduceCtorEq, ↓reduceIte] at w78
                    obtain ⟨v83, q81, h⟩ := bnd_some h
                    have w82 := e42_12 v79 a0 v83 q81
                    simp only [X42_12] at w82
                    try simp -implicitDefEqProofs only [go_sem, Nat.reduceLT, Nat.reduceAdd, Nat.reduceSub, Nat.reduceMul, Nat.reduceEqDiff, Nat.reduceBEq, Nat.reduceLeDiff, Int.reduceToNat, Int.reduceLT, Int.reduceLE, Int.reduceEq, reduceCtorEq, ↓reduceIte] at w82
                    cases h
                    simp -implicitDefEqProofs only [go_sem, Nat.reduceLT, Nat.reduceAdd, Nat.reduceSub, Nat.reduceMul, Nat.reduceEqDiff, Nat.reduceBEq, Nat.reduceLeDiff, Int.reduceToNat, Int.reduceLT, Int.reduceLE, Int.reduceEq, reduceCtorEq, ↓reduceIte, i42, c42, b1, w9, b11, w18, b20, w27, b29, w36, b38, w45, b47, b51, w55, b57, w65, w73, b75, w78, w82]
                · replace h := br_t b57 h
                  obtain ⟨v62, q60, h⟩ := bnd_some h
                  have w61 := e42_7 (ltI a1.n a0.hold) a0 a1 v62 q60
                  simp only [X42_7] at w61
                  try simp -implicitDefEqProofs only [go_sem, Nat.reduceLT, Nat.reduceAdd, Nat.reduceSub, Nat.reduceMul, Nat.reduceEqDiff, Nat.reduceBEq, Nat.reduceLeDiff, Int.reduceToNat, Int.reduceLT, Int.reduceLE, Int.reduceEq, reduceCtorEq, ↓reduceIte] at w61
                  cases h
                  simp -implicitDefEqProofs only [go_sem, Nat.reduceLT, Nat.reduceAdd, Nat.reduceSub, Nat.reduceMul, Nat.reduceEqDiff, Nat.reduceBEq, Nat.reduceLeDiff, Int.reduceToNat, Int.reduceLT, Int.reduceLE, Int.reduceEq, reduceCtorEq, ↓reduceIte, i42, c42, b1, w9, b11, w18, b20, w27, b29, w36, b38, w45, b47, b51, w55, b57, w61]
            · replace h := br_t b47 h
              obtain ⟨r50, q48, h⟩ := bnd_some h
              have w49 := e60 a0 0 r50 q48
              try simp -implicitDefEqProofs only [go_sem, Nat.reduceLT, Nat.reduceAdd, Nat.reduceSub, Nat.reduceMul, Nat.reduceEqDiff, Nat.reduceBEq, Nat.reduceLeDiff, Int.reduceToNat, Int.reduceLT, Int.reduceLE, Int.reduceEq, reduceCtorEq, ↓reduceIte] at w49
              cases h
              simp -implicitDefEqProofs only [go_sem, Nat.reduceLT, Nat.reduceAdd, Nat.reduceSub, Nat.reduceMul, Nat.reduceEqDiff, Nat.reduceBEq, Nat.reduceLeDiff, Int.reduceToNat, Int.reduceLT, Int.reduceLE, Int.reduceEq, reduceCtorEq, ↓reduceIte, i42, c42, b1, w9, b11, w18, b20, w27, b29, w36, b38, w45, b47, w49]
          · replace h := br_t b38 h
            obtain ⟨r41, q39, h⟩ := bnd_some h
            have w40 := e60 a0 0 r41 q39
            try simp -implicitDefEqProofs only [go_sem, Nat.reduceLT, Nat.reduceAdd, Nat.reduceSub, Nat.reduceMul, Nat.reduceEqDiff, Nat.reduceBEq, Nat.reduceLeDiff, Int.reduceToNat, Int.reduceLT, Int.reduceLE, Int.reduceEq, reduceCtorEq, ↓reduceIte] at w40
            cases h
            simp -implicitDefEqProofs only [go_sem, Nat.reduceLT, Nat.reduceAdd, Nat.reduceSub, Nat.reduceMul, Nat.reduceEqDiff, Nat.reduceBEq, Nat.reduceLeDiff, Int.reduceToNat, Int.reduceLT, Int.reduceLE, Int.reduceEq, reduceCtorEq, ↓reduceIte, i42, c42, b1, w9, b11, w18, b20, w27, b29, w36, b38, w40]
        · replace h := br_t b29 h
          obtain ⟨r32, q30, h⟩ := bnd_some h
          have w31 := e60 a0 1 r32 q30
          try simp -implicitDefEqProofs only [go_sem, Nat.reduceLT, Nat.reduceAdd, Nat.reduceSub, Nat.reduceMul, Nat.reduceEqDiff, Nat.reduceBEq, Nat.reduceLeDiff, Int.reduceToNat, Int.reduceLT, Int.reduceLE, Int.reduceEq, reduceCtorEq, ↓reduceIte] at w31
          cases h
          simp -implicitDefEqProofs only [go_sem, Nat.reduceLT, Nat.reduceAdd, Nat.reduceSub, Nat.reduceMul, Nat.reduceEqDiff, Nat.reduceBEq, Nat.reduceLeDiff, Int.reduceToNat, Int.reduceLT, Int.reduceLE, Int.reduceEq, reduceCtorEq, ↓reduceIte, i42, c42, b1, w9, b11, w18, b20, w27, b29, w31]
      · replace h := br_t b20 h
        obtain ⟨r23, q21, h⟩ := bnd_some h
        have w22 := e60 a0 2 r23 q21
        try simp -implicitDefEqProofs only [go_sem, Nat.reduceLT, Nat.reduceAdd, Nat.reduceSub, Nat.reduceMul, Nat.reduceEqDiff, Nat.reduceBEq, Nat.reduceLeDiff, Int.reduceToNat, Int.reduceLT, Int.reduceLE, Int.reduceEq, reduceCtorEq, ↓reduceIte] at w22
        cases h
        simp -implicitDefEqProofs only [go_sem, Nat.reduceLT, Nat.reduceAdd, Nat.reduceSub, Nat.reduceMul, Nat.reduceEqDiff, Nat.reduceBEq, Nat.reduceLeDiff, Int.reduceToNat, Int.reduceLT, Int.reduceLE, Int.reduceEq, reduceCtorEq, ↓reduceIte, i42, c42, b1, w9, b11, w18, b20, w22]
    · replace h := br_t b11 h
      obtain ⟨r14, q12, h⟩ := bnd_some h
      have w13 := e60 a0 1 r14 q12
      try simp -implicitDefEqProofs only [go_sem, Nat.reduceLT, Nat.reduceAdd, Nat.reduceSub, Nat.reduceMul, Nat.reduceEqDiff, Nat.reduceBEq, Nat.reduceLeDiff, Int.reduceToNat, Int.reduceLT, Int.reduceLE, Int.reduceEq, reduceCtorEq, ↓reduceIte] at w13
      cases h
      simp -implicitDefEqProofs only [go_sem, Nat.reduceLT, Nat.reduceAdd, Nat.reduceSub, Nat.reduceMul, Nat.reduceEqDiff, Nat.reduceBEq, Nat.reduceLeDiff, Int.reduceToNat, Int.reduceLT, Int.reduceLE, Int.reduceEq, reduceCtorEq, ↓reduceIte, i42, c42, b1, w9, b11, w13]
  · replace h := br_t b1 h
    obtain ⟨⟨r4, r5⟩, q2, h⟩ := bnd_some h
    replace h := sel2_some h
    have w3 := e49 a0 (r4, r5) q2
    try simp -implicitDefEqProofs only [go_sem, Nat.reduceLT, Nat.reduceAdd, Nat.reduceSub, Nat.reduceMul, Nat.reduceEqDiff, Nat.reduceBEq, Nat.reduceLeDiff, Int.reduceToNat, Int.reduceLT, Int.reduceLE, Int.reduceEq, reduceCtorEq, ↓reduceIte] at w3
    cases h
    simp -implicitDefEqProofs only [go_sem, Nat.reduceLT, Nat.reduceAdd, Nat.reduceSub, Nat.reduceMul, Nat.reduceEqDiff, Nat.reduceBEq, Nat.reduceLeDiff, Int.reduceToNat, Int.reduceLT, Int.reduceLE, Int.reduceEq, reduceCtorEq, ↓reduceIte, i42, c42, b1, w3]
-- f26 spec.PlayEvents
def X26_1 (a1 : (List Evt)) (r4 : Bool) (r3 : Session) (o : Bool) : Ex × Fr × St :=
  (.normal, frOf 50 (upd (upd (upd (upd anyF 1 (.ts .imm 2 (a1.map encEvt))) 4 (.ptr 0 0 0)) 7 (.ptr 1 0 0)) 25 (.bool o)), [some ⟨.box, 5, [[.int .i64 0, .int .i64 0, .int .i64 0, .int .i64 0, .int .i64 0]]⟩, some ⟨.box, 5, [[.int .i64 r3.state, .int .i64 r3.hold, .int .i64 r3.left, .int .i64 r3.quiet, .int .i64 r3.ups]]⟩])
theorem e26_1 (a1 : (List Evt)) (r4 : Bool) (r3 : Session) (o : Bool) (h : m26_1 a1 r4 = some o) : evCL T 0 k26_1 (frOf 50 (upd (upd (upd (upd anyF 1 (.ts .imm 2 (a1.map encEvt))) 4 (.ptr 0 0 0)) 7 (.ptr 1 0 0)) 8 (.bool r4))) [some ⟨.box, 5, [[.int .i64 0, .int .i64 0, .int .i64 0, .int .i64 0, .int .i64 0]]⟩, some ⟨.box, 5, [[.int .i64 r3.state, .int .i64 r3.hold, .int .i64 r3.left, .int .i64 r3.quiet, .int .i64 r3.ups]]⟩] = some (X26_1 a1 r4 r3 o) := by
  unfold m26_1 at h
  try simp -implicitDefEqProofs only [go_sem, Nat.reduceLT, Nat.reduceAdd, Nat.reduceSub, Nat.reduceMul, Nat.reduceEqDiff, Nat.reduceBEq, Nat.reduceLeDiff, Int.reduceToNat, Int.reduceLT, Int.reduceLE, Int.reduceEq, reduceCtorEq, ↓reduceIte, X26_1, k26_1]
  cases b5 : (r4 : Bool)
  · replace h := br_f b5 h
    cases h
    simp -implicitDefEqProofs only [go_sem, Nat.reduceLT, Nat.reduceAdd, Nat.reduceSub, Nat.reduceMul, Nat.reduceEqDiff, Nat.reduceBEq, Nat.reduceLeDiff, Int.reduceToNat, Int.reduceLT, Int.reduceLE, Int.reduceEq, reduceCtorEq, ↓reduceIte, X26_1, k26_1, b5]
  · replace h := br_t b5 h
    cases h
    simp -implicitDefEqProofs only [go_sem, Nat.reduceLT, Nat.reduceAdd, Nat.reduceSub, Nat.reduceMul, Nat.reduceEqDiff, Nat.reduceBEq, Nat.reduceLeDiff, Int.reduceToNat, Int.reduceLT, Int.reduceLE, Int.reduceEq, reduceCtorEq, ↓reduceIte, X26_1, k26_1, b5]
def X26_2 (a1 : (List Evt)) (p10 : Int) (o : ((Int × Int × Int × Int × Int × List Int) ⊕ Unit)) : Ex × Fr × St :=
  match o with
  | .inl o => (.exit 0, frOf 50 (upd (upd (upd anyF 4 (.ptr 0 0 0)) 7 (.ptr 1 0 0)) 9 (.sl 2 0 o.2.2.2.2.2.length)), [some ⟨.box, 5, [[.int .i64 0, .int .i64 0, .int .i64 0, .int .i64 0, .int .i64 0]]⟩, some ⟨.box, 5, [[.int .i64 o.1, .int .i64 o.2.1, .int .i64 o.2.2.1, .int .i64 o.2.2.2.1, .int .i64 o.2.2.2.2.1]]⟩, some ⟨.arr, 1, o.2.2.2.2.2.map encInt⟩])
  | .inr o => (.ret, frOf 50 (upd (upd (upd anyF 4 (.ptr 0 0 0)) 5 (.sl 1 0 0)) 6 (.bool false)), [some ⟨.box, 5, [[.int .i64 0, .int .i64 0, .int .i64 0, .int .i64 0, .int .i64 0]]⟩, some ⟨.arr, 1, []⟩])
def E26_2 (a1 : (List Evt)) (p10 : Int) (s : (Int × Int × Int × Int × Int × Int × List Int)) : Fr × St := (frOf 50 (upd (upd (upd (upd (upd (upd anyF 4 (.ptr 0 0 0)) 7 (.ptr 1 0 0)) 9 (.sl 2 0 s.2.2.2.2.2.2.length)) 27 (.ts .imm 2 (a1.map encEvt))) 28 (.int .i64 p10)) 29 (.int .i64 s.1)), [some ⟨.box, 5, [[.int .i64 0, .int .i64 0, .int .i64 0, .int .i64 0, .int .i64 0]]⟩, some ⟨.box, 5, [[.int .i64 s.2.1, .int .i64 s.2.2.1, .int .i64 s.2.2.2.1, .int .i64 s.2.2.2.2.1, .int .i64 s.2.2.2.2.2.1]]⟩, some ⟨.arr, 1, s.2.2.2.2.2.2.map encInt⟩])
theorem b26_2 (a1 : (List Evt)) (p10 : Int) (s : (Int × Int × Int × Int × Int × Int × List Int)) (o : Ctl (Int × Int × Int × Int × Int × Int × List Int) ((Int × Int × Int × Int × Int × List Int) ⊕ Unit)) (h : m26_2b a1 p10 s = some o) : evCL T 0 k26_2b (E26_2 a1 p10 s).1 (E26_2 a1 p10 s).2 = some (ctlX (E26_2 a1 p10) (X26_2 a1 p10) o) := by
  unfold m26_2b at h
  obtain ⟨s26, s27, s28, s29, s30, s31, s32⟩ := s
  replace h := sel7_some h
  try simp -implicitDefEqProofs only [go_sem, Nat.reduceLT, Nat.reduceAdd, Nat.reduceSub, Nat.reduceMul, Nat.reduceEqDiff, Nat.reduceBEq, Nat.reduceLeDiff, Int.reduceToNat, Int.reduceLT, Int.reduceLE, Int.reduceEq, reduceCtorEq, ↓reduceIte, E26_2, X26_2, k26_2b]
  cases b33 : (ltI s26 p10 : Bool)
  · replace h := br_f b33 h
    cases h
    simp -implicitDefEqProofs only [go_sem, Nat.reduceLT, Nat.reduceAdd, Nat.reduceSub, Nat.reduceMul, Nat.reduceEqDiff, Nat.reduceBEq, Nat.reduceLeDiff, Int.reduceToNat, Int.reduceLT, Int.reduceLE, Int.reduceEq, reduceCtorEq, ↓reduceIte, E26_2, X26_2, k26_2b, b33]
  · replace h := br_t b33 h
    obtain ⟨x34, q35, h⟩ := bnd_some h
    obtain ⟨g36, g37, g38⟩ := idx_row encEvt q35
    try simp -implicitDefEqProofs only [go_sem, Nat.reduceLT, Nat.reduceAdd, Nat.reduceSub, Nat.reduceMul, Nat.reduceEqDiff, Nat.reduceBEq, Nat.reduceLeDiff, Int.reduceToNat, Int.reduceLT, Int.reduceLE, Int.reduceEq, reduceCtorEq, ↓reduceIte] at g37
    try simp -implicitDefEqProofs only [go_sem, Nat.reduceLT, Nat.reduceAdd, Nat.reduceSub, Nat.reduceMul, Nat.reduceEqDiff, Nat.reduceBEq, Nat.reduceLeDiff, Int.reduceToNat, Int.reduceLT, Int.reduceLE, Int.reduceEq, reduceCtorEq, ↓reduceIte] at g38
    obtain ⟨r41, q39, h⟩ := bnd_some h
    have w40 := e41 x34 r41 q39
    try simp -implicitDefEqProofs only [go_sem, Nat.reduceLT, Nat.reduceAdd, Nat.reduceSub, Nat.reduceMul, Nat.reduceEqDiff, Nat.reduceBEq, Nat.reduceLeDiff, Int.reduceToNat, Int.reduceLT, Int.reduceLE, Int.reduceEq, reduceCtorEq, ↓reduceIte] at w40
    try simp -implicitDefEqProofs only [go_sem, Nat.reduceLT, Nat.reduceAdd, Nat.reduceSub, Nat.reduceMul, Nat.reduceEqDiff, Nat.reduceBEq, Nat.reduceLeDiff, Int.reduceToNat, Int.reduceLT, Int.reduceLE, Int.reduceEq, reduceCtorEq, ↓reduceIte, E26_2, X26_2, k26_2b, b33, g36, g37, g38, w40]
    cases b42 : (r41 : Bool)
    · replace h := br_f b42 h
      cases h
      simp -implicitDefEqProofs only [go_sem, Nat.reduceLT, Nat.reduceAdd, Nat.reduceSub, Nat.reduceMul, Nat.reduceEqDiff, Nat.reduceBEq, Nat.reduceLeDiff, Int.reduceToNat, Int.reduceLT, Int.reduceLE, Int.reduceEq, reduceCtorEq, ↓reduceIte, E26_2, X26_2, k26_2b, b33, g36, g37, g38, w40, b42]
    · replace h := br_t b42 h
      obtain ⟨⟨r45, r46⟩, q43, h⟩ := bnd_some h
      replace h := sel2_some h
      have w44 := e42 (⟨s27, s28, s29, s30, s31⟩ : Session) x34 (r45, r46) q43
      try simp -implicitDefEqProofs only [go_sem, Nat.reduceLT, Nat.reduceAdd, Nat.reduceSub, Nat.reduceMul, Nat.reduceEqDiff, Nat.reduceBEq, Nat.reduceLeDiff, Int.reduceToNat, Int.reduceLT, Int.reduceLE, Int.reduceEq, reduceCtorEq, ↓reduceIte] at w44
      obtain ⟨g47, h⟩ := ck_some h
      try simp -implicitDefEqProofs only [go_sem, Nat.reduceLT, Nat.reduceAdd, Nat.reduceSub, Nat.reduceMul, Nat.reduceEqDiff, Nat.reduceBEq, Nat.reduceLeDiff, Int.reduceToNat, Int.reduceLT, Int.reduceLE, Int.reduceEq, reduceCtorEq, ↓reduceIte] at g47
      cases h
      simp -implicitDefEqProofs only [go_sem, Nat.reduceLT, Nat.reduceAdd, Nat.reduceSub, Nat.reduceMul, Nat.reduceEqDiff, Nat.reduceBEq, Nat.reduceLeDiff, Int.reduceToNat, Int.reduceLT, Int.reduceLE, Int.reduceEq, reduceCtorEq, ↓reduceIte, E26_2, X26_2, k26_2b, b33, g36, g37, g38, w40, b42, w44, g47]
theorem e26_2 (a1 : (List Evt)) (p10 : Int) (s : (Int × Int × Int × Int × Int × Int × List Int)) (o : ((Int × Int × Int × Int × Int × List Int) ⊕ Unit)) (h : loopP (m26_2b a1 p10) s = some o) : evCL T 0 (.loop k26_2b) (E26_2 a1 p10 s).1 (E26_2 a1 p10 s).2 = some (X26_2 a1 p10 o) :=
  loop_walk (E := E26_2 a1 p10) (X := X26_2 a1 p10) (by intro b; rcases b with b | b <;> (simp only [X26_2]; nofun)) (b26_2 a1 p10) s o h
theorem call26 (args : List AV) (S : St) : evCall T (evFL T) 26 args S = lendC (evFL T 26) S (lendAll S [[0], [2]] args) := evCall0 fn26 rfl rfl args S
theorem callz26 (args : List AV) (S : St) : evCallFz T (evFL T) 26 args S = lendZ (evFL T 26) S [[0, 0, 0, 0, 0], [1], [0]] (lendAll S [[0], [2]] args) := evCallFz0 fn26 rfl rfl args S
attribute [go_sem] call26 callz26
theorem e26 (a0 : Int) (a1 : (List Evt)) (r : (Session × (List Int) × Bool)) (h : m26 a0 a1 = some r) : evFL T 26 [.int .i64 a0, .ts .imm 2 (a1.map encEvt)] [] = some (.tup [.agg [.int .i64 r.1.state, .int .i64 r.1.hold, .int .i64 r.1.left, .int .i64 r.1.quiet, .int .i64 r.1.ups], .sl 0 0 r.2.1.length, .bool r.2.2], [some ⟨.arr, 1, r.2.1.map encInt⟩]) := by
  unfold m26 at h
  rw [evFL_at fn26 (Nat.le_of_ble_eq_true rfl) rfl (.inr rfl)]
  obtain ⟨⟨r3, r4⟩, q1, h⟩ := bnd_some h
  replace h := sel2_some h
  have w2 := e11 a0 (r3, r4) q1
  try simp -implicitDefEqProofs only [go_sem, Nat.reduceLT, Nat.reduceAdd, Nat.reduceSub, Nat.reduceMul, Nat.reduceEqDiff, Nat.reduceBEq, Nat.reduceLeDiff, Int.reduceToNat, Int.reduceLT, Int.reduceLE, Int.reduceEq, reduceCtorEq, ↓reduceIte] at w2
  obtain ⟨v8, q6, h⟩ := bnd_some h
  have w7 := e26_1 a1 r4 r3 v8 q6
  simp only [X26_1] at w7
  try simp -implicitDefEqProofs only [go_sem, Nat.reduceLT, Nat.reduceAdd, Nat.reduceSub, Nat.reduceMul, Nat.reduceEqDiff, Nat.reduceBEq, Nat.reduceLeDiff, Int.reduceToNat, Int.reduceLT, Int.reduceLE, Int.reduceEq, reduceCtorEq, ↓reduceIte] at w7
  try simp -implicitDefEqProofs only [go_sem, Nat.reduceLT, Nat.reduceAdd, Nat.reduceSub, Nat.reduceMul, Nat.reduceEqDiff, Nat.reduceBEq, Nat.reduceLeDiff, Int.reduceToNat, Int.reduceLT, Int.reduceLE, Int.reduceEq, reduceCtorEq, ↓reduceIte, i26, c26, w2, w7]
  cases b9 : (v8 : Bool)
  · replace h := br_f b9 h
    try simp -implicitDefEqProofs only [go_sem, Nat.reduceLT, Nat.reduceAdd, Nat.reduceSub, Nat.reduceMul, Nat.reduceEqDiff, Nat.reduceBEq, Nat.reduceLeDiff, Int.reduceToNat, Int.reduceLT, Int.reduceLE, Int.reduceEq, reduceCtorEq, ↓reduceIte, i26, c26, w2, w7, b9]
    obtain ⟨o, q48, h⟩ := bnd_some h
    rcases o with ⟨v50, v51, v52, v53, v54, v55⟩ | ⟨⟩
    · replace h := selS_l h
      replace h := sel6_some h
      have w49 := e26_2 a1 (↑a1.length : Int) (0, r3.state, r3.hold, r3.left, r3.quiet, r3.ups, []) (.inl (v50, v51, v52, v53, v54, v55)) q48
      simp only [E26_2, X26_2] at w49
      try simp -implicitDefEqProofs only [go_sem, Nat.reduceLT, Nat.reduceAdd, Nat.reduceSub, Nat.reduceMul, Nat.reduceEqDiff, Nat.reduceBEq, Nat.reduceLeDiff, Int.reduceToNat, Int.reduceLT, Int.reduceLE, Int.reduceEq, reduceCtorEq, ↓reduceIte] at w49
      cases h
      simp -implicitDefEqProofs only [go_sem, Nat.reduceLT, Nat.reduceAdd, Nat.reduceSub, Nat.reduceMul, Nat.reduceEqDiff, Nat.reduceBEq, Nat.reduceLeDiff, Int.reduceToNat, Int.reduceLT, Int.reduceLE, Int.reduceEq, reduceCtorEq, ↓reduceIte, i26, c26, w2, w7, b9, w49]
    · replace h := selS_r h
      have w49 := e26_2 a1 (↑a1.length : Int) (0, r3.state, r3.hold, r3.left, r3.quiet, r3.ups, []) (.inr ()) q48
      simp only [E26_2, X26_2] at w49
      try simp -implicitDefEqProofs only [go_sem, Nat.reduceLT, Nat.reduceAdd, Nat.reduceSub, Nat.reduceMul, Nat.reduceEqDiff, Nat.reduceBEq, Nat.reduceLeDiff, Int.reduceToNat, Int.reduceLT, Int.reduceLE, Int.reduceEq, reduceCtorEq, ↓reduceIte] at w49
      cases h
      simp -implicitDefEqProofs only [go_sem, Nat.reduceLT, Nat.reduceAdd, Nat.reduceSub, Nat.reduceMul, Nat.reduceEqDiff, Nat.reduceBEq, Nat.reduceLeDiff, Int.reduceToNat, Int.reduceLT, Int.reduceLE, Int.reduceEq, reduceCtorEq, ↓reduceIte, i26, c26, w2, w7, b9, w49]
  · replace h := br_t b9 h
    cases h
    simp -implicitDefEqProofs only [go_sem, Nat.reduceLT, Nat.reduceAdd, Nat.reduceSub, Nat.reduceMul, Nat.reduceEqDiff, Nat.reduceBEq, Nat.reduceLeDiff, Int.reduceToNat, Int.reduceLT, Int.reduceLE, Int.reduceEq, reduceCtorEq, ↓reduceIte, i26, c26, w2, w7, b9]
-- f40 impl.within
def X40_1 (a0 : Int) (a1 : Int) (a2 : Int) (o : Bool) : Ex × Fr × St :=
  (.normal, frOf 15 (upd anyF 6 (.bool o)), [])
theorem e40_1 (a0 : Int) (a1 : Int) (a2 : Int) (o : Bool) (h : m40_1 a0 a1 a2 = some o) : evCL T 0 k40_1 (frOf 15 (upd (upd (upd anyF 0 (.int .i64 a0)) 1 (.int .i64 a1)) 2 (.int .i64 a2))) [] = some (X40_1 a0 a1 a2 o) := by
  unfold m40_1 at h
  try simp -implicitDefEqProofs only [go_sem, Nat.reduceLT, Nat.reduceAdd, Nat.reduceSub, Nat.reduceMul, Nat.reduceEqDiff, Nat.reduceBEq, Nat.reduceLeDiff, Int.reduceToNat, Int.reduceLT, Int.reduceLE, Int.reduceEq, reduceCtorEq, ↓reduceIte, X40_1, k40_1]
  cases b1 : (leI a1 a0 : Bool)
  · replace h := br_f b1 h
    cases h
    simp -implicitDefEqProofs only [go_sem, Nat.reduceLT, Nat.reduceAdd, Nat.reduceSub, Nat.reduceMul, Nat.reduceEqDiff, Nat.reduceBEq, Nat.reduceLeDiff, Int.reduceToNat, Int.reduceLT, Int.reduceLE, Int.reduceEq, reduceCtorEq, ↓reduceIte, X40_1, k40_1, b1]
  · replace h := br_t b1 h
    cases h
    simp -implicitDefEqProofs only [go_sem, Nat.reduceLT, Nat.reduceAdd, Nat.reduceSub, Nat.reduceMul, Nat.reduceEqDiff, Nat.reduceBEq, Nat.reduceLeDiff, Int.reduceToNat, Int.reduceLT, Int.reduceLE, Int.reduceEq, reduceCtorEq, ↓reduceIte, X40_1, k40_1, b1]
theorem call40 (args : List AV) (S : St) : evCall T (evFL T) 40 args S = lendC (evFL T 40) S (lendAll S [[0], [0], [0]] args) := evCall0 fn40 rfl rfl args S
theorem callz40 (args : List AV) (S : St) : evCallFz T (evFL T) 40 args S = lendZ (evFL T 40) S [[0]] (lendAll S [[0], [0], [0]] args) := evCallFz0 fn40 rfl rfl args S
attribute [go_sem] call40 callz40
theorem e40 (a0 : Int) (a1 : Int) (a2 : Int) (r : Bool) (h : m40 a0 a1 a2 = some r) : evFL T 40 [.int .i64 a0, .int .i64 a1, .int .i64 a2] [] = some (.bool r, []) := by
  unfold m40 at h
  rw [evFL_at fn40 (Nat.le_of_ble_eq_true rfl) rfl (.inr rfl)]
  obtain ⟨v4, q2, h⟩ := bnd_some h
  have w3 := e40_1 a0 a1 a2 v4 q2
  simp only [X40_1] at w3
  try simp -implicitDefEqProofs only [go_sem, Nat.reduceLT, Nat.reduceAdd, Nat.reduceSub, Nat.reduceMul, Nat.reduceEqDiff, Nat.reduceBEq, Nat.reduceLeDiff, Int.reduceToNat, Int.reduceLT, Int.reduceLE, Int.reduceEq, reduceCtorEq, ↓reduceIte] at w3
  cases h
  simp -implicitDefEqProofs only [go_sem, Nat.reduceLT, Nat.reduceAdd, Nat.reduceSub, Nat.reduceMul, Nat.reduceEqDiff, Nat.reduceBEq, Nat.reduceLeDiff, Int.reduceToNat, Int.reduceLT, Int.reduceLE, Int.reduceEq, reduceCtorEq, ↓reduceIte, i40, c40, w3]
-- f12 impl.NewSession
theorem call12 (args : List AV) (S : St) : evCall T (evFL T) 12 args S = lendC (evFL T 12) S (lendAll S [[0]] args) := evCall0 fn12 rfl rfl args S
theorem callz12 (args : List AV) (S : St) : evCallFz T (evFL T) 12 args S = lendZ (evFL T 12) S [[0, 0, 0, 0, 0], [0]] (lendAll S [[0]] args) := evCallFz0 fn12 rfl rfl args S
attribute [go_sem] call12 callz12
theorem e12 (a0 : Int) (r : (Session × Bool)) (h : m12 a0 = some r) : evFL T 12 [.int .i64 a0] [] = some (.tup [.agg [.int .i64 r.1.state, .int .i64 r.1.hold, .int .i64 r.1.left, .int .i64 r.1.quiet, .int .i64 r.1.ups], .bool r.2], []) := by
  unfold m12 at h
  rw [evFL_at fn12 (Nat.le_of_ble_eq_true rfl) rfl (.inr rfl)]
  obtain ⟨r3, q1, h⟩ := bnd_some h
  have w2 := e40 a0 3 90 r3 q1
  try simp -implicitDefEqProofs only [go_sem, Nat.reduceLT, Nat.reduceAdd, Nat.reduceSub, Nat.reduceMul, Nat.reduceEqDiff, Nat.reduceBEq, Nat.reduceLeDiff, Int.reduceToNat, Int.reduceLT, Int.reduceLE, Int.reduceEq, reduceCtorEq, ↓reduceIte] at w2
  try simp -implicitDefEqProofs only [go_sem, Nat.reduceLT, Nat.reduceAdd, Nat.reduceSub, Nat.reduceMul, Nat.reduceEqDiff, Nat.reduceBEq, Nat.reduceLeDiff, Int.reduceToNat, Int.reduceLT, Int.reduceLE, Int.reduceEq, reduceCtorEq, ↓reduceIte, i12, c12, w2]
  cases b4 : (r3 : Bool)
  · replace h := br_f b4 h
    cases h
    simp -implicitDefEqProofs only [go_sem, Nat.reduceLT, Nat.reduceAdd, Nat.reduceSub, Nat.reduceMul, Nat.reduceEqDiff, Nat.reduceBEq, Nat.reduceLeDiff, Int.reduceToNat, Int.reduceLT, Int.reduceLE, Int.reduceEq, reduceCtorEq, ↓reduceIte, i12, c12, w2, b4]
  · replace h := br_t b4 h
    cases h
    simp -implicitDefEqProofs only [go_sem, Nat.reduceLT, Nat.reduceAdd, Nat.reduceSub, Nat.reduceMul, Nat.reduceEqDiff, Nat.reduceBEq, Nat.reduceLeDiff, Int.reduceToNat, Int.reduceLT, Int.reduceLE, Int.reduceEq, reduceCtorEq, ↓reduceIte, i12, c12, w2, b4]
-- f63 slices.IndexFunc[[]impl.Event,impl.Event]
def X63_1 (a1_f : Nat) (a1_c : List AV) (a0 : (List Evt)) (p1 : Int) (a1 : (Evt → Option Bool)) (o : (Unit ⊕ Int)) : Ex × Fr × St :=
  match o with
  | .inl o => (.exit 0, frOf 19 (anyF), [])
  | .inr o => (.ret, frOf 19 (upd anyF 4 (.int .i64 o)), [])
def E63_1 (a1_f : Nat) (a1_c : List AV) (a0 : (List Evt)) (p1 : Int) (a1 : (Evt → Option Bool)) (s : Int) : Fr × St := (frOf 19 (upd (upd (upd (upd anyF 0 (.ts .imm 2 (a0.map encEvt))) 1 (.fn a1_f a1_c)) 7 (.int .i64 p1)) 8 (.int .i64 s)), [])
theorem b63_1 (a0 : (List Evt)) (p1 : Int) (a1 : (Evt → Option Bool)) (a1_f : Nat) (a1_c : List AV) (a1_h : ((∀ S, mapO (lendPtr S) a1_c = some a1_c) ∧ (∀ n0 src R tm t c, tdL n0 src R tm t c a1_c = some a1_c)) ∧ ∀ y0 r, a1 y0 = some r → (∀ S, evCall T (evFL T) a1_f ([.agg [.int .i64 y0.kind, .int .i64 y0.n]] ++ a1_c) S = some (.bool r, S)) ∧ (∀ S, evCallFz T (evFL T) a1_f ([.agg [.int .i64 y0.kind, .int .i64 y0.n]] ++ a1_c) S = some (.bool r, S))) (s : Int) (o : Ctl Int (Unit ⊕ Int)) (h : m63_1b a0 p1 a1 s = some o) : evCL T 0 k63_1b (E63_1 a1_f a1_c a0 p1 a1 s).1 (E63_1 a1_f a1_c a0 p1 a1 s).2 = some (ctlX (E63_1 a1_f a1_c a0 p1 a1) (X63_1 a1_f a1_c a0 p1 a1) o) := by
  unfold m63_1b at h
  revert h
  generalize s = s12
  intro h
  try simp -implicitDefEqProofs only [go_sem, Nat.reduceLT, Nat.reduceAdd, Nat.reduceSub, Nat.reduceMul, Nat.reduceEqDiff, Nat.reduceBEq, Nat.reduceLeDiff, Int.reduceToNat, Int.reduceLT, Int.reduceLE, Int.reduceEq, reduceCtorEq, ↓reduceIte, E63_1, X63_1, k63_1b, a1_h.1]
  cases b13 : (ltI s12 p1 : Bool)
  · replace h := br_f b13 h
    cases h
    simp -implicitDefEqProofs only [go_sem, Nat.reduceLT, Nat.reduceAdd, Nat.reduceSub, Nat.reduceMul, Nat.reduceEqDiff, Nat.reduceBEq, Nat.reduceLeDiff, Int.reduceToNat, Int.reduceLT, Int.reduceLE, Int.reduceEq, reduceCtorEq, ↓reduceIte, E63_1, X63_1, k63_1b, a1_h.1, b13]
  · replace h := br_t b13 h
    obtain ⟨x14, q15, h⟩ := bnd_some h
    obtain ⟨g16, g17, g18⟩ := idx_row encEvt q15
    try simp -implicitDefEqProofs only [go_sem, Nat.reduceLT, Nat.reduceAdd, Nat.reduceSub, Nat.reduceMul, Nat.reduceEqDiff, Nat.reduceBEq, Nat.reduceLeDiff, Int.reduceToNat, Int.reduceLT, Int.reduceLE, Int.reduceEq, reduceCtorEq, ↓reduceIte] at g17
    try simp -implicitDefEqProofs only [go_sem, Nat.reduceLT, Nat.reduceAdd, Nat.reduceSub, Nat.reduceMul, Nat.reduceEqDiff, Nat.reduceBEq, Nat.reduceLeDiff, Int.reduceToNat, Int.reduceLT, Int.reduceLE, Int.reduceEq, reduceCtorEq, ↓reduceIte] at g18
    obtain ⟨r19, q20, h⟩ := bnd_some h
    have w21 := a1_h.2 x14 r19 q20
    try simp -implicitDefEqProofs only [go_sem, Nat.reduceLT, Nat.reduceAdd, Nat.reduceSub, Nat.reduceMul, Nat.reduceEqDiff, Nat.reduceBEq, Nat.reduceLeDiff, Int.reduceToNat, Int.reduceLT, Int.reduceLE, Int.reduceEq, reduceCtorEq, ↓reduceIte] at w21
    try simp -implicitDefEqProofs only [go_sem, Nat.reduceLT, Nat.reduceAdd, Nat.reduceSub, Nat.reduceMul, Nat.reduceEqDiff, Nat.reduceBEq, Nat.reduceLeDiff, Int.reduceToNat, Int.reduceLT, Int.reduceLE, Int.reduceEq, reduceCtorEq, ↓reduceIte, E63_1, X63_1, k63_1b, a1_h.1, b13, g16, g17, g18, w21.1, w21.2]
    cases b22 : (r19 : Bool)
    · replace h := br_f b22 h
      cases h
      simp -implicitDefEqProofs only [go_sem, Nat.reduceLT, Nat.reduceAdd, Nat.reduceSub, Nat.reduceMul, Nat.reduceEqDiff, Nat.reduceBEq, Nat.reduceLeDiff, Int.reduceToNat, Int.reduceLT, Int.reduceLE, Int.reduceEq, reduceCtorEq, ↓reduceIte, E63_1, X63_1, k63_1b, a1_h.1, b13, g16, g17, g18, w21.1, w21.2, b22]
    · replace h := br_t b22 h
      cases h
      simp -implicitDefEqProofs only [go_sem, Nat.reduceLT, Nat.reduceAdd, Nat.reduceSub, Nat.reduceMul, Nat.reduceEqDiff, Nat.reduceBEq, Nat.reduceLeDiff, Int.reduceToNat, Int.reduceLT, Int.reduceLE, Int.reduceEq, reduceCtorEq, ↓reduceIte, E63_1, X63_1, k63_1b, a1_h.1, b13, g16, g17, g18, w21.1, w21.2, b22]
theorem e63_1 (a0 : (List Evt)) (p1 : Int) (a1 : (Evt → Option Bool)) (a1_f : Nat) (a1_c : List AV) (a1_h : ((∀ S, mapO (lendPtr S) a1_c = some a1_c) ∧ (∀ n0 src R tm t c, tdL n0 src R tm t c a1_c = some a1_c)) ∧ ∀ y0 r, a1 y0 = some r → (∀ S, evCall T (evFL T) a1_f ([.agg [.int .i64 y0.kind, .int .i64 y0.n]] ++ a1_c) S = some (.bool r, S)) ∧ (∀ S, evCallFz T (evFL T) a1_f ([.agg [.int .i64 y0.kind, .int .i64 y0.n]] ++ a1_c) S = some (.bool r, S))) (s : Int) (o : (Unit ⊕ Int)) (h : loopP (m63_1b a0 p1 a1) s = some o) : evCL T 0 (.loop k63_1b) (E63_1 a1_f a1_c a0 p1 a1 s).1 (E63_1 a1_f a1_c a0 p1 a1 s).2 = some (X63_1 a1_f a1_c a0 p1 a1 o) :=
  loop_walk (E := E63_1 a1_f a1_c a0 p1 a1) (X := X63_1 a1_f a1_c a0 p1 a1) (by intro b; rcases b with b | b <;> (simp only [X63_1]; nofun)) (b63_1 a0 p1 a1 a1_f a1_c a1_h) s o h
theorem call63 (args : List AV) (S : St) : evCall T (evFL T) 63 args S = lendC (evFL T 63) S (lendAll S [[2], [0]] args) := evCall0 fn63 rfl rfl args S
theorem callz63 (args : List AV) (S : St) : evCallFz T (evFL T) 63 args S = lendZ (evFL T 63) S [[0]] (lendAll S [[2], [0]] args) := evCallFz0 fn63 rfl rfl args S
attribute [go_sem] call63 callz63
theorem e63 (a0 : (List Evt)) (a1 : (Evt → Option Bool)) (a1_f : Nat) (a1_c : List AV) (a1_h : ((∀ S, mapO (lendPtr S) a1_c = some a1_c) ∧ (∀ n0 src R tm t c, tdL n0 src R tm t c a1_c = some a1_c)) ∧ ∀ y0 r, a1 y0 = some r → (∀ S, evCall T (evFL T) a1_f ([.agg [.int .i64 y0.kind, .int .i64 y0.n]] ++ a1_c) S = some (.bool r, S)) ∧ (∀ S, evCallFz T (evFL T) a1_f ([.agg [.int .i64 y0.kind, .int .i64 y0.n]] ++ a1_c) S = some (.bool r, S))) (r : Int) (h : m63 a0 a1 = some r) : evFL T 63 [.ts .imm 2 (a0.map encEvt), .fn a1_f a1_c] [] = some (.int .i64 r, []) := by
  unfold m63 at h
  rw [evFL_at fn63 (Nat.le_of_ble_eq_true rfl) rfl (.inr rfl)]
  try simp -implicitDefEqProofs only [go_sem, Nat.reduceLT, Nat.reduceAdd, Nat.reduceSub, Nat.reduceMul, Nat.reduceEqDiff, Nat.reduceBEq, Nat.reduceLeDiff, Int.reduceToNat, Int.reduceLT, Int.reduceLE, Int.reduceEq, reduceCtorEq, ↓reduceIte, i63, c63, a1_h.1]
  obtain ⟨o, q23, h⟩ := bnd_some h
  rcases o with ⟨⟩ | v25
  · replace h := selS_l h
    have w24 := e63_1 a0 (↑a0.length : Int) a1 a1_f a1_c a1_h 0 (.inl ()) q23
    simp only [E63_1, X63_1] at w24
    try simp -implicitDefEqProofs only [go_sem, Nat.reduceLT, Nat.reduceAdd, Nat.reduceSub, Nat.reduceMul, Nat.reduceEqDiff, Nat.reduceBEq, Nat.reduceLeDiff, Int.reduceToNat, Int.reduceLT, Int.reduceLE, Int.reduceEq, reduceCtorEq, ↓reduceIte] at w24
    cases h
    simp -implicitDefEqProofs only [go_sem, Nat.reduceLT, Nat.reduceAdd, Nat.reduceSub, Nat.reduceMul, Nat.reduceEqDiff, Nat.reduceBEq, Nat.reduceLeDiff, Int.reduceToNat, Int.reduceLT, Int.reduceLE, Int.reduceEq, reduceCtorEq, ↓reduceIte, i63, c63, a1_h.1, w24]
  · replace h := selS_r h
    have w24 := e63_1 a0 (↑a0.length : Int) a1 a1_f a1_c a1_h 0 (.inr v25) q23
    simp only [E63_1, X63_1] at w24
    try simp -implicitDefEqProofs only [go_sem, Nat.reduceLT, Nat.reduceAdd, Nat.reduceSub, Nat.reduceMul, Nat.reduceEqDiff, Nat.reduceBEq, Nat.reduceLeDiff, Int.reduceToNat, Int.reduceLT, Int.reduceLE, Int.reduceEq, reduceCtorEq, ↓reduceIte] at w24
    cases h
    simp -implicitDefEqProofs only [go_sem, Nat.reduceLT, Nat.reduceAdd, Nat.reduceSub, Nat.reduceMul, Nat.reduceEqDiff, Nat.reduceBEq, Nat.reduceLeDiff, Int.reduceToNat, Int.reduceLT, Int.reduceLE, Int.reduceEq, reduceCtorEq, ↓reduceIte, i63, c63, a1_h.1, w24]
-- f45 slices.ContainsFunc[[]impl.Event,impl.Event]
theorem call45 (args : List AV) (S : St) : evCall T (evFL T) 45 args S = lendC (evFL T 45) S (lendAll S [[2], [0]] args) := evCall0 fn45 rfl rfl args S
theorem callz45 (args : List AV) (S : St) : evCallFz T (evFL T) 45 args S = lendZ (evFL T 45) S [[0]] (lendAll S [[2], [0]] args) := evCallFz0 fn45 rfl rfl args S
attribute [go_sem] call45 callz45
theorem e45 (a0 : (List Evt)) (a1 : (Evt → Option Bool)) (a1_f : Nat) (a1_c : List AV) (a1_h : ((∀ S, mapO (lendPtr S) a1_c = some a1_c) ∧ (∀ n0 src R tm t c, tdL n0 src R tm t c a1_c = some a1_c)) ∧ ∀ y0 r, a1 y0 = some r → (∀ S, evCall T (evFL T) a1_f ([.agg [.int .i64 y0.kind, .int .i64 y0.n]] ++ a1_c) S = some (.bool r, S)) ∧ (∀ S, evCallFz T (evFL T) a1_f ([.agg [.int .i64 y0.kind, .int .i64 y0.n]] ++ a1_c) S = some (.bool r, S))) (r : Bool) (h : m45 a0 a1 = some r) : evFL T 45 [.ts .imm 2 (a0.map encEvt), .fn a1_f a1_c] [] = some (.bool r, []) := by
  unfold m45 at h
  rw [evFL_at fn45 (Nat.le_of_ble_eq_true rfl) rfl (.inr rfl)]
  obtain ⟨r3, q1, h⟩ := bnd_some h
  have w2 := e63 a0 a1 a1_f a1_c a1_h r3 q1
  try simp -implicitDefEqProofs only [go_sem, Nat.reduceLT, Nat.reduceAdd, Nat.reduceSub, Nat.reduceMul, Nat.reduceEqDiff, Nat.reduceBEq, Nat.reduceLeDiff, Int.reduceToNat, Int.reduceLT, Int.reduceLE, Int.reduceEq, reduceCtorEq, ↓reduceIte] at w2
  cases h
  simp -implicitDefEqProofs only [go_sem, Nat.reduceLT, Nat.reduceAdd, Nat.reduceSub, Nat.reduceMul, Nat.reduceEqDiff, Nat.reduceBEq, Nat.reduceLeDiff, Int.reduceToNat, Int.reduceLT, Int.reduceLE, Int.reduceEq, reduceCtorEq, ↓reduceIte, i45, c45, a1_h.1, w2]
-- f43 impl.isEvent
def X43_1 (a0 : Evt) (o : Bool) : Ex × Fr × St :=
  (.normal, frOf 21 (upd anyF 2 (.bool o)), [])
theorem e43_1 (a0 : Evt) (o : Bool) (h : m43_1 a0 = some o) : evCL T 0 k43_1 (frOf 21 (upd anyF 1 (.ptr 0 0 0))) [some ⟨.box, 2, [[.int .i64 a0.kind, .int .i64 a0.n]]⟩] = some (X43_1 a0 o) := by
  unfold m43_1 at h
  obtain ⟨r3, q1, h⟩ := bnd_some h
  have w2 := e40 a0.kind 1 10 r3 q1
  try simp -implicitDefEqProofs only [go_sem, Nat.reduceLT, Nat.reduceAdd, Nat.reduceSub, Nat.reduceMul, Nat.reduceEqDiff, Nat.reduceBEq, Nat.reduceLeDiff, Int.reduceToNat, Int.reduceLT, Int.reduceLE, Int.reduceEq, reduceCtorEq, ↓reduceIte] at w2
  try simp -implicitDefEqProofs only [go_sem, Nat.reduceLT, Nat.reduceAdd, Nat.reduceSub, Nat.reduceMul, Nat.reduceEqDiff, Nat.reduceBEq, Nat.reduceLeDiff, Int.reduceToNat, Int.reduceLT, Int.reduceLE, Int.reduceEq, reduceCtorEq, ↓reduceIte, X43_1, k43_1, w2]
  cases b4 : (r3 : Bool)
  · replace h := br_f b4 h
    cases h
    simp -implicitDefEqProofs only [go_sem, Nat.reduceLT, Nat.reduceAdd, Nat.reduceSub, Nat.reduceMul, Nat.reduceEqDiff, Nat.reduceBEq, Nat.reduceLeDiff, Int.reduceToNat, Int.reduceLT, Int.reduceLE, Int.reduceEq, reduceCtorEq, ↓reduceIte, X43_1, k43_1, w2, b4]
  · replace h := br_t b4 h
    try simp -implicitDefEqProofs only [go_sem, Nat.reduceLT, Nat.reduceAdd, Nat.reduceSub, Nat.reduceMul, Nat.reduceEqDiff, Nat.reduceBEq, Nat.reduceLeDiff, Int.reduceToNat, Int.reduceLT, Int.reduceLE, Int.reduceEq, reduceCtorEq, ↓reduceIte, X43_1, k43_1, w2, b4]
    cases b5 : (eqI a0.n 0 : Bool)
    · replace h := br_f b5 h
      try simp -implicitDefEqProofs only [go_sem, Nat.reduceLT, Nat.reduceAdd, Nat.reduceSub, Nat.reduceMul, Nat.reduceEqDiff, Nat.reduceBEq, Nat.reduceLeDiff, Int.reduceToNat, Int.reduceLT, Int.reduceLE, Int.reduceEq, reduceCtorEq, ↓reduceIte, X43_1, k43_1, w2, b4, b5]
      cases b6 : (eqI a0.kind 5 : Bool)
      · replace h := br_f b6 h
        cases h
        simp -implicitDefEqProofs only [go_sem, Nat.reduceLT, Nat.reduceAdd, Nat.reduceSub, Nat.reduceMul, Nat.reduceEqDiff, Nat.reduceBEq, Nat.reduceLeDiff, Int.reduceToNat, Int.reduceLT, Int.reduceLE, Int.reduceEq, reduceCtorEq, ↓reduceIte, X43_1, k43_1, w2, b4, b5, b6]
      · replace h := br_t b6 h
        obtain ⟨r9, q7, h⟩ := bnd_some h
        have w8 := e40 a0.n 0 100 r9 q7
        try simp -implicitDefEqProofs only [go_sem, Nat.reduceLT, Nat.reduceAdd, Nat.reduceSub, Nat.reduceMul, Nat.reduceEqDiff, Nat.reduceBEq, Nat.reduceLeDiff, Int.reduceToNat, Int.reduceLT, Int.reduceLE, Int.reduceEq, reduceCtorEq, ↓reduceIte] at w8
        cases h
        simp -implicitDefEqProofs only [go_sem, Nat.reduceLT, Nat.reduceAdd, Nat.reduceSub, Nat.reduceMul, Nat.reduceEqDiff, Nat.reduceBEq, Nat.reduceLeDiff, Int.reduceToNat, Int.reduceLT, Int.reduceLE, Int.reduceEq, reduceCtorEq, ↓reduceIte, X43_1, k43_1, w2, b4, b5, b6, w8]
    · replace h := br_t b5 h
      cases h
      simp -implicitDefEqProofs only [go_sem, Nat.reduceLT, Nat.reduceAdd, Nat.reduceSub, Nat.reduceMul, Nat.reduceEqDiff, Nat.reduceBEq, Nat.reduceLeDiff, Int.reduceToNat, Int.reduceLT, Int.reduceLE, Int.reduceEq, reduceCtorEq, ↓reduceIte, X43_1, k43_1, w2, b4, b5]
theorem call43 (args : List AV) (S : St) : evCall T (evFL T) 43 args S = lendC (evFL T 43) S (lendAll S [[0, 0]] args) := evCall0 fn43 rfl rfl args S
theorem callz43 (args : List AV) (S : St) : evCallFz T (evFL T) 43 args S = lendZ (evFL T 43) S [[0]] (lendAll S [[0, 0]] args) := evCallFz0 fn43 rfl rfl args S
attribute [go_sem] call43 callz43
theorem e43 (a0 : Evt) (r : Bool) (h : m43 a0 = some r) : evFL T 43 [.agg [.int .i64 a0.kind, .int .i64 a0.n]] [] = some (.bool r, []) := by
  unfold m43 at h
  rw [evFL_at fn43 (Nat.le_of_ble_eq_true rfl) rfl (.inr rfl)]
  obtain ⟨v12, q10, h⟩ := bnd_some h
  have w11 := e43_1 a0 v12 q10
  simp only [X43_1] at w11
  try simp -implicitDefEqProofs only [go_sem, Nat.reduceLT, Nat.reduceAdd, Nat.reduceSub, Nat.reduceMul, Nat.reduceEqDiff, Nat.reduceBEq, Nat.reduceLeDiff, Int.reduceToNat, Int.reduceLT, Int.reduceLE, Int.reduceEq, reduceCtorEq, ↓reduceIte] at w11
  cases h
  simp -implicitDefEqProofs only [go_sem, Nat.reduceLT, Nat.reduceAdd, Nat.reduceSub, Nat.reduceMul, Nat.reduceEqDiff, Nat.reduceBEq, Nat.reduceLeDiff, Int.reduceToNat, Int.reduceLT, Int.reduceLE, Int.reduceEq, reduceCtorEq, ↓reduceIte, i43, c43, w11]
-- f46 impl.PlayEvents$1
theorem call46 (args : List AV) (S : St) : evCall T (evFL T) 46 args S = lendC (evFL T 46) S (lendAll S [[0, 0]] args) := evCall0 fn46 rfl rfl args S
theorem callz46 (args : List AV) (S : St) : evCallFz T (evFL T) 46 args S = lendZ (evFL T 46) S [[0]] (lendAll S [[0, 0]] args) := evCallFz0 fn46 rfl rfl args S
attribute [go_sem] call46 callz46
theorem e46 (a0 : Evt) (r : Bool) (h : m46 a0 = some r) : evFL T 46 [.agg [.int .i64 a0.kind, .int .i64 a0.n]] [] = some (.bool r, []) := by
  unfold m46 at h
  rw [evFL_at fn46 (Nat.le_of_ble_eq_true rfl) rfl (.inr rfl)]
  obtain ⟨r3, q1, h⟩ := bnd_some h
  have w2 := e43 a0 r3 q1
  try simp -implicitDefEqProofs only [go_sem, Nat.reduceLT, Nat.reduceAdd, Nat.reduceSub, Nat.reduceMul, Nat.reduceEqDiff, Nat.reduceBEq, Nat.reduceLeDiff, Int.reduceToNat, Int.reduceLT, Int.reduceLE, Int.reduceEq, reduceCtorEq, ↓reduceIte] at w2
  cases h
  simp -implicitDefEqProofs only [go_sem, Nat.reduceLT, Nat.reduceAdd, Nat.reduceSub, Nat.reduceMul, Nat.reduceEqDiff, Nat.reduceBEq, Nat.reduceLeDiff, Int.reduceToNat, Int.reduceLT, Int.reduceLE, Int.reduceEq, reduceCtorEq, ↓reduceIte, i46, c46, w2]
-- f61 (impl.Session).to
theorem call61 (args : List AV) (S : St) : evCall T (evFL T) 61 args S = lendC (evFL T 61) S (lendAll S [[0, 0, 0, 0, 0], [0]] args) := evCall0 fn61 rfl rfl args S
theorem callz61 (args : List AV) (S : St) : evCallFz T (evFL T) 61 args S = lendZ (evFL T 61) S [[0, 0, 0, 0, 0]] (lendAll S [[0, 0, 0, 0, 0], [0]] args) := evCallFz0 fn61 rfl rfl args S
attribute [go_sem] call61 callz61
theorem e61 (a0 : Session) (a1 : Int) (r : Session) (h : m61 a0 a1 = some r) : evFL T 61 [.agg [.int .i64 a0.state, .int .i64 a0.hold, .int .i64 a0.left, .int .i64 a0.quiet, .int .i64 a0.ups], .int .i64 a1] [] = some (.agg [.int .i64 r.state, .int .i64 r.hold, .int .i64 r.left, .int .i64 r.quiet, .int .i64 r.ups], []) := by
  unfold m61 at h
  rw [evFL_at fn61 (Nat.le_of_ble_eq_true rfl) rfl (.inr rfl)]
  cases h
  simp -implicitDefEqProofs only [go_sem, Nat.reduceLT, Nat.reduceAdd, Nat.reduceSub, Nat.reduceMul, Nat.reduceEqDiff, Nat.reduceBEq, Nat.reduceLeDiff, Int.reduceToNat, Int.reduceLT, Int.reduceLE, Int.reduceEq, reduceCtorEq, ↓reduceIte, i61, c61]
-- f62 (impl.Session).tick
theorem call62 (args : List AV) (S : St) : evCall T (evFL T) 62 args S = lendC (evFL T 62) S (lendAll S [[0, 0, 0, 0, 0]] args) := evCall0 fn62 rfl rfl args S
theorem callz62 (args : List AV) (S : St) : evCallFz T (evFL T) 62 args S = lendZ (evFL T 62) S [[0, 0, 0, 0, 0], [1]] (lendAll S [[0, 0, 0, 0, 0]] args) := evCallFz0 fn62 rfl rfl args S
attribute [go_sem] call62 callz62
theorem e62 (a0 : Session) (r : (Session × (List Int))) (h : m62 a0 = some r) : evFL T 62 [.agg [.int .i64 a0.state, .int .i64 a0.hold, .int .i64 a0.left, .int .i64 a0.quiet, .int .i64 a0.ups]] [] = some (.tup [.agg [.int .i64 r.1.state, .int .i64 r.1.hold, .int .i64 r.1.left, .int .i64 r.1.quiet, .int .i64 r.1.ups], .sl 0 0 r.2.length], [some ⟨.arr, 1, r.2.map encInt⟩]) := by
  unfold m62 at h
  rw [evFL_at fn62 (Nat.le_of_ble_eq_true rfl) rfl (.inr rfl)]
  try simp -implicitDefEqProofs only [go_sem, Nat.reduceLT, Nat.reduceAdd, Nat.reduceSub, Nat.reduceMul, Nat.reduceEqDiff, Nat.reduceBEq, Nat.reduceLeDiff, Int.reduceToNat, Int.reduceLT, Int.reduceLE, Int.reduceEq, reduceCtorEq, ↓reduceIte, i62, c62]
  cases b1 : (eqI (wsub .i64 a0.left 1) 0 : Bool)
  · replace h := br_f b1 h
    try simp -implicitDefEqProofs only [go_sem, Nat.reduceLT, Nat.reduceAdd, Nat.reduceSub, Nat.reduceMul, Nat.reduceEqDiff, Nat.reduceBEq, Nat.reduceLeDiff, Int.reduceToNat, Int.reduceLT, Int.reduceLE, Int.reduceEq, reduceCtorEq, ↓reduceIte, i62, c62, b1]
    cases b5 : (eqI a0.state 2 : Bool)
    · replace h := br_f b5 h
      try simp -implicitDefEqProofs only [go_sem, Nat.reduceLT, Nat.reduceAdd, Nat.reduceSub, Nat.reduceMul, Nat.reduceEqDiff, Nat.reduceBEq, Nat.reduceLeDiff, Int.reduceToNat, Int.reduceLT, Int.reduceLE, Int.reduceEq, reduceCtorEq, ↓reduceIte, i62, c62, b1, b5]
      cases b6 : (eqI (wsub .i64 a0.quiet 1) 0 : Bool)
      · replace h := br_f b6 h
        cases h
        simp -implicitDefEqProofs only [go_sem, Nat.reduceLT, Nat.reduceAdd, Nat.reduceSub, Nat.reduceMul, Nat.reduceEqDiff, Nat.reduceBEq, Nat.reduceLeDiff, Int.reduceToNat, Int.reduceLT, Int.reduceLE, Int.reduceEq, reduceCtorEq, ↓reduceIte, i62, c62, b1, b5, b6]
      · replace h := br_t b6 h
        cases h
        simp -implicitDefEqProofs only [go_sem, Nat.reduceLT, Nat.reduceAdd, Nat.reduceSub, Nat.reduceMul, Nat.reduceEqDiff, Nat.reduceBEq, Nat.reduceLeDiff, Int.reduceToNat, Int.reduceLT, Int.reduceLE, Int.reduceEq, reduceCtorEq, ↓reduceIte, i62, c62, b1, b5, b6]
    · replace h := br_t b5 h
      cases h
      simp -implicitDefEqProofs only [go_sem, Nat.reduceLT, Nat.reduceAdd, Nat.reduceSub, Nat.reduceMul, Nat.reduceEqDiff, Nat.reduceBEq, Nat.reduceLeDiff, Int.reduceToNat, Int.reduceLT, Int.reduceLE, Int.reduceEq, reduceCtorEq, ↓reduceIte, i62, c62, b1, b5]
  · replace h := br_t b1 h
    obtain ⟨r4, q2, h⟩ := bnd_some h
    have w3 := e61 (⟨a0.state, a0.hold, wsub .i64 a0.left 1, a0.quiet, a0.ups⟩ : Session) 0 r4 q2
    try simp -implicitDefEqProofs only [go_sem, Nat.reduceLT, Nat.reduceAdd, Nat.reduceSub, Nat.reduceMul, Nat.reduceEqDiff, Nat.reduceBEq, Nat.reduceLeDiff, Int.reduceToNat, Int.reduceLT, Int.reduceLE, Int.reduceEq, reduceCtorEq, ↓reduceIte] at w3
    cases h
    simp -implicitDefEqProofs only [go_sem, Nat.reduceLT, Nat.reduceAdd, Nat.reduceSub, Nat.reduceMul, Nat.reduceEqDiff, Nat.reduceBEq, Nat.reduceLeDiff, Int.reduceToNat, Int.reduceLT, Int.reduceLE, Int.reduceEq, reduceCtorEq, ↓reduceIte, i62, c62, b1, w3]
-- f44 (impl.Session).step
def X44_1 (p1 : Bool) (a0 : Session) (a1 : Evt) (o : Bool) : Ex × Fr × St :=
  (.normal, frOf 142 (upd (upd (upd (upd (upd anyF 2 (.ptr 0 0 0)) 3 (.ptr 1 0 0)) 4 (.ptr 2 0 0)) 6 (.bool p1)) 12 (.bool o)), [some ⟨.box, 5, [[.int .i64 a0.state, .int .i64 a0.hold, .int .i64 a0.left, .int .i64 a0.quiet, .int .i64 a0.ups]]⟩, some ⟨.box, 2, [[.int .i64 a1.kind, .int .i64 a1.n]]⟩, some ⟨.box, 5, [[.int .i64 0, .int .i64 0, .int .i64 0, .int .i64 0, .int .i64 0]]⟩])
theorem e44_1 (p1 : Bool) (a0 : Session) (a1 : Evt) (o : Bool) (h : m44_1 a0 a1 = some o) : evCL T 0 k44_1 (frOf 142 (upd (upd (upd (upd anyF 2 (.ptr 0 0 0)) 3 (.ptr 1 0 0)) 4 (.ptr 2 0 0)) 6 (.bool p1))) [some ⟨.box, 5, [[.int .i64 a0.state, .int .i64 a0.hold, .int .i64 a0.left, .int .i64 a0.quiet, .int .i64 a0.ups]]⟩, some ⟨.box, 2, [[.int .i64 a1.kind, .int .i64 a1.n]]⟩, some ⟨.box, 5, [[.int .i64 0, .int .i64 0, .int .i64 0, .int .i64 0, .int .i64 0]]⟩] = some (X44_1 p1 a0 a1 o) := by
  unfold m44_1 at h
  try simp -implicitDefEqProofs only [go_sem, Nat.reduceLT, Nat.reduceAdd, Nat.reduceSub, Nat.reduceMul, Nat.reduceEqDiff, Nat.reduceBEq, Nat.reduceLeDiff, Int.reduceToNat, Int.reduceLT, Int.reduceLE, Int.reduceEq, reduceCtorEq, ↓reduceIte, X44_1, k44_1]
  cases b2 : (eqI a1.kind 1 : Bool)
  · replace h := br_f b2 h
    cases h
    simp -implicitDefEqProofs only [go_sem, Nat.reduceLT, Nat.reduceAdd, Nat.reduceSub, Nat.reduceMul, Nat.reduceEqDiff, Nat.reduceBEq, Nat.reduceLeDiff, Int.reduceToNat, Int.reduceLT, Int.reduceLE, Int.reduceEq, reduceCtorEq, ↓reduceIte, X44_1, k44_1, b2]
  · replace h := br_t b2 h
    cases h
    simp -implicitDefEqProofs only [go_sem, Nat.reduceLT, Nat.reduceAdd, Nat.reduceSub, Nat.reduceMul, Nat.reduceEqDiff, Nat.reduceBEq, Nat.reduceLeDiff, Int.reduceToNat, Int.reduceLT, Int.reduceLE, Int.reduceEq, reduceCtorEq, ↓reduceIte, X44_1, k44_1, b2]
def X44_2 (p10 : Bool) (a0 : Session) (a1 : Evt) (o : Bool) : Ex × Fr × St :=
  (.normal, frOf 142 (upd (upd (upd (upd (upd anyF 2 (.ptr 0 0 0)) 3 (.ptr 1 0 0)) 4 (.ptr 2 0 0)) 6 (.bool p10)) 23 (.bool o)), [some ⟨.box, 5, [[.int .i64 a0.state, .int .i64 a0.hold, .int .i64 a0.left, .int .i64 a0.quiet, .int .i64 a0.ups]]⟩, some ⟨.box, 2, [[.int .i64 a1.kind, .int .i64 a1.n]]⟩, some ⟨.box, 5, [[.int .i64 0, .int .i64 0, .int .i64 0, .int .i64 0, .int .i64 0]]⟩])
theorem e44_2 (p10 : Bool) (a0 : Session) (a1 : Evt) (o : Bool) (h : m44_2 p10 a1 = some o) : evCL T 0 k44_2 (frOf 142 (upd (upd (upd (upd anyF 2 (.ptr 0 0 0)) 3 (.ptr 1 0 0)) 4 (.ptr 2 0 0)) 6 (.bool p10))) [some ⟨.box, 5, [[.int .i64 a0.state, .int .i64 a0.hold, .int .i64 a0.left, .int .i64 a0.quiet, .int .i64 a0.ups]]⟩, some ⟨.box, 2, [[.int .i64 a1.kind, .int .i64 a1.n]]⟩, some ⟨.box, 5, [[.int .i64 0, .int .i64 0, .int .i64 0, .int .i64 0, .int .i64 0]]⟩] = some (X44_2 p10 a0 a1 o) := by
  unfold m44_2 at h
  try simp -implicitDefEqProofs only [go_sem, Nat.reduceLT, Nat.reduceAdd, Nat.reduceSub, Nat.reduceMul, Nat.reduceEqDiff, Nat.reduceBEq, Nat.reduceLeDiff, Int.reduceToNat, Int.reduceLT, Int.reduceLE, Int.reduceEq, reduceCtorEq, ↓reduceIte, X44_2, k44_2]
  cases b11 : (eqI a1.kind 2 : Bool)
  · replace h := br_f b11 h
    cases h
    simp -implicitDefEqProofs only [go_sem, Nat.reduceLT, Nat.reduceAdd, Nat.reduceSub, Nat.reduceMul, Nat.reduceEqDiff, Nat.reduceBEq, Nat.reduceLeDiff, Int.reduceToNat, Int.reduceLT, Int.reduceLE, Int.reduceEq, reduceCtorEq, ↓reduceIte, X44_2, k44_2, b11]
  · replace h := br_t b11 h
    cases h
    simp -implicitDefEqProofs only [go_sem, Nat.reduceLT, Nat.reduceAdd, Nat.reduceSub, Nat.reduceMul, Nat.reduceEqDiff, Nat.reduceBEq, Nat.reduceLeDiff, Int.reduceToNat, Int.reduceLT, Int.reduceLE, Int.reduceEq, reduceCtorEq, ↓reduceIte, X44_2, k44_2, b11]
def X44_3 (p19 : Bool) (a0 : Session) (a1 : Evt) (o : Bool) : Ex × Fr × St :=
  (.normal, frOf 142 (upd (upd (upd (upd (upd anyF 2 (.ptr 0 0 0)) 3 (.ptr 1 0 0)) 4 (.ptr 2 0 0)) 6 (.bool p19)) 33 (.bool o)), [some ⟨.box, 5, [[.int .i64 a0.state, .int .i64 a0.hold, .int .i64 a0.left, .int .i64 a0.quiet, .int .i64 a0.ups]]⟩, some ⟨.box, 2, [[.int .i64 a1.kind, .int .i64 a1.n]]⟩, some ⟨.box, 5, [[.int .i64 0, .int .i64 0, .int .i64 0, .int .i64 0, .int .i64 0]]⟩])
theorem e44_3 (p19 : Bool) (a0 : Session) (a1 : Evt) (o : Bool) (h : m44_3 a0 a1 = some o) : evCL T 0 k44_3 (frOf 142 (upd (upd (upd (upd anyF 2 (.ptr 0 0 0)) 3 (.ptr 1 0 0)) 4 (.ptr 2 0 0)) 6 (.bool p19))) [some ⟨.box, 5, [[.int .i64 a0.state, .int .i64 a0.hold, .int .i64 a0.left, .int .i64 a0.quiet, .int .i64 a0.ups]]⟩, some ⟨.box, 2, [[.int .i64 a1.kind, .int .i64 a1.n]]⟩, some ⟨.box, 5, [[.int .i64 0, .int .i64 0, .int .i64 0, .int .i64 0, .int .i64 0]]⟩] = some (X44_3 p19 a0 a1 o) := by
  unfold m44_3 at h
  try simp -implicitDefEqProofs only [go_sem, Nat.reduceLT, Nat.reduceAdd, Nat.reduceSub, Nat.reduceMul, Nat.reduceEqDiff, Nat.reduceBEq, Nat.reduceLeDiff, Int.reduceToNat, Int.reduceLT, Int.reduceLE, Int.reduceEq, reduceCtorEq, ↓reduceIte, X44_3, k44_3]
  cases b20 : (eqI a1.kind 3 : Bool)
  · replace h := br_f b20 h
    cases h
    simp -implicitDefEqProofs only [go_sem, Nat.reduceLT, Nat.reduceAdd, Nat.reduceSub, Nat.reduceMul, Nat.reduceEqDiff, Nat.reduceBEq, Nat.reduceLeDiff, Int.reduceToNat, Int.reduceLT, Int.reduceLE, Int.reduceEq, reduceCtorEq, ↓reduceIte, X44_3, k44_3, b20]
  · replace h := br_t b20 h
    cases h
    simp -implicitDefEqProofs only [go_sem, Nat.reduceLT, Nat.reduceAdd, Nat.reduceSub, Nat.reduceMul, Nat.reduceEqDiff, Nat.reduceBEq, Nat.reduceLeDiff, Int.reduceToNat, Int.reduceLT, Int.reduceLE, Int.reduceEq, reduceCtorEq, ↓reduceIte, X44_3, k44_3, b20]
def X44_4 (a0 : Session) (a1 : Evt) (o : Bool) : Ex × Fr × St :=
  (.normal, frOf 142 (upd (upd (upd (upd anyF 2 (.ptr 0 0 0)) 3 (.ptr 1 0 0)) 4 (.ptr 2 0 0)) 57 (.bool o)), [some ⟨.box, 5, [[.int .i64 a0.state, .int .i64 a0.hold, .int .i64 a0.left, .int .i64 a0.quiet, .int .i64 a0.ups]]⟩, some ⟨.box, 2, [[.int .i64 a1.kind, .int .i64 a1.n]]⟩, some ⟨.box, 5, [[.int .i64 0, .int .i64 0, .int .i64 0, .int .i64 0, .int .i64 0]]⟩])
theorem e44_4 (a0 : Session) (a1 : Evt) (o : Bool) (h : m44_4 a0 a1 = some o) : evCL T 0 k44_4 (frOf 142 (upd (upd (upd anyF 2 (.ptr 0 0 0)) 3 (.ptr 1 0 0)) 4 (.ptr 2 0 0))) [some ⟨.box, 5, [[.int .i64 a0.state, .int .i64 a0.hold, .int .i64 a0.left, .int .i64 a0.quiet, .int .i64 a0.ups]]⟩, some ⟨.box, 2, [[.int .i64 a1.kind, .int .i64 a1.n]]⟩, some ⟨.box, 5, [[.int .i64 0, .int .i64 0, .int .i64 0, .int .i64 0, .int .i64 0]]⟩] = some (X44_4 a0 a1 o) := by
  unfold m44_4 at h
  try simp -implicitDefEqProofs only [go_sem, Nat.reduceLT, Nat.reduceAdd, Nat.reduceSub, Nat.reduceMul, Nat.reduceEqDiff, Nat.reduceBEq, Nat.reduceLeDiff, Int.reduceToNat, Int.reduceLT, Int.reduceLE, Int.reduceEq, reduceCtorEq, ↓reduceIte, X44_4, k44_4]
  cases b33 : (eqI a1.kind 5 : Bool)
  · replace h := br_f b33 h
    cases h
    simp -implicitDefEqProofs only [go_sem, Nat.reduceLT, Nat.reduceAdd, Nat.reduceSub, Nat.reduceMul, Nat.reduceEqDiff, Nat.reduceBEq, Nat.reduceLeDiff, Int.reduceToNat, Int.reduceLT, Int.reduceLE, Int.reduceEq, reduceCtorEq, ↓reduceIte, X44_4, k44_4, b33]
  · replace h := br_t b33 h
    try simp -implicitDefEqProofs only [go_sem, Nat.reduceLT, Nat.reduceAdd, Nat.reduceSub, Nat.reduceMul, Nat.reduceEqDiff, Nat.reduceBEq, Nat.reduceLeDiff, Int.reduceToNat, Int.reduceLT, Int.reduceLE, Int.reduceEq, reduceCtorEq, ↓reduceIte, X44_4, k44_4, b33]
    cases b34 : (eqI a0.state 2 : Bool)
    · replace h := br_f b34 h
      cases h
      simp -implicitDefEqProofs only [go_sem, Nat.reduceLT, Nat.reduceAdd, Nat.reduceSub, Nat.reduceMul, Nat.reduceEqDiff, Nat.reduceBEq, Nat.reduceLeDiff, Int.reduceToNat, Int.reduceLT, Int.reduceLE, Int.reduceEq, reduceCtorEq, ↓reduceIte, X44_4, k44_4, b33, b34]
    · replace h := br_t b34 h
      cases h
      simp -implicitDefEqProofs only [go_sem, Nat.reduceLT, Nat.reduceAdd, Nat.reduceSub, Nat.reduceMul, Nat.reduceEqDiff, Nat.reduceBEq, Nat.reduceLeDiff, Int.reduceToNat, Int.reduceLT, Int.reduceLE, Int.reduceEq, reduceCtorEq, ↓reduceIte, X44_4, k44_4, b33, b34]
def X44_5 (a0 : Session) (a1 : Evt) (o : Bool) : Ex × Fr × St :=
  (.normal, frOf 142 (upd (upd (upd (upd anyF 2 (.ptr 0 0 0)) 3 (.ptr 1 0 0)) 4 (.ptr 2 0 0)) 88 (.bool o)), [some ⟨.box, 5, [[.int .i64 a0.state, .int .i64 a0.hold, .int .i64 a0.left, .int .i64 a0.quiet, .int .i64 a0.ups]]⟩, some ⟨.box, 2, [[.int .i64 a1.kind, .int .i64 a1.n]]⟩, some ⟨.box, 5, [[.int .i64 0, .int .i64 0, .int .i64 0, .int .i64 0, .int .i64 0]]⟩])
theorem e44_5 (a0 : Session) (a1 : Evt) (o : Bool) (h : m44_5 a0 a1 = some o) : evCL T 0 k44_5 (frOf 142 (upd (upd (upd anyF 2 (.ptr 0 0 0)) 3 (.ptr 1 0 0)) 4 (.ptr 2 0 0))) [some ⟨.box, 5, [[.int .i64 a0.state, .int .i64 a0.hold, .int .i64 a0.left, .int .i64 a0.quiet, .int .i64 a0.ups]]⟩, some ⟨.box, 2, [[.int .i64 a1.kind, .int .i64 a1.n]]⟩, some ⟨.box, 5, [[.int .i64 0, .int .i64 0, .int .i64 0, .int .i64 0, .int .i64 0]]⟩] = some (X44_5 a0 a1 o) := by
  unfold m44_5 at h
  try simp -implicitDefEqProofs only [go_sem, Nat.reduceLT, Nat.reduceAdd, Nat.reduceSub, Nat.reduceMul, Nat.reduceEqDiff, Nat.reduceBEq, Nat.reduceLeDiff, Int.reduceToNat, Int.reduceLT, Int.reduceLE, Int.reduceEq, reduceCtorEq, ↓reduceIte, X44_5, k44_5]
  cases b42 : (eqI a1.kind 7 : Bool)
  · replace h := br_f b42 h
    cases h
    simp -implicitDefEqProofs only [go_sem, Nat.reduceLT, Nat.reduceAdd, Nat.reduceSub, Nat.reduceMul, Nat.reduceEqDiff, Nat.reduceBEq, Nat.reduceLeDiff, Int.reduceToNat, Int.reduceLT, Int.reduceLE, Int.reduceEq, reduceCtorEq, ↓reduceIte, X44_5, k44_5, b42]
  · replace h := br_t b42 h
    cases h
    simp -implicitDefEqProofs only [go_sem, Nat.reduceLT, Nat.reduceAdd, Nat.reduceSub, Nat.reduceMul, Nat.reduceEqDiff, Nat.reduceBEq, Nat.reduceLeDiff, Int.reduceToNat, Int.reduceLT, Int.reduceLE, Int.reduceEq, reduceCtorEq, ↓reduceIte, X44_5, k44_5, b42]
def X44_6 (a0 : Session) (a1 : Evt) (o : Bool) : Ex × Fr × St :=
  (.normal, frOf 142 (upd (upd (upd (upd anyF 2 (.ptr 0 0 0)) 3 (.ptr 1 0 0)) 4 (.ptr 2 0 0)) 107 (.bool o)), [some ⟨.box, 5, [[.int .i64 a0.state, .int .i64 a0.hold, .int .i64 a0.left, .int .i64 a0.quiet, .int .i64 a0.ups]]⟩, some ⟨.box, 2, [[.int .i64 a1.kind, .int .i64 a1.n]]⟩, some ⟨.box, 5, [[.int .i64 0, .int .i64 0, .int .i64 0, .int .i64 0, .int .i64 0]]⟩])
theorem e44_6 (a0 : Session) (a1 : Evt) (o : Bool) (h : m44_6 a0 a1 = some o) : evCL T 0 k44_6 (frOf 142 (upd (upd (upd anyF 2 (.ptr 0 0 0)) 3 (.ptr 1 0 0)) 4 (.ptr 2 0 0))) [some ⟨.box, 5, [[.int .i64 a0.state, .int .i64 a0.hold, .int .i64 a0.left, .int .i64 a0.quiet, .int .i64 a0.ups]]⟩, some ⟨.box, 2, [[.int .i64 a1.kind, .int .i64 a1.n]]⟩, some ⟨.box, 5, [[.int .i64 0, .int .i64 0, .int .i64 0, .int .i64 0, .int .i64 0]]⟩] = some (X44_6 a0 a1 o) := by
  unfold m44_6 at h
  try simp -implicitDefEqProofs only [go_sem, Nat.reduceLT, Nat.reduceAdd, Nat.reduceSub, Nat.reduceMul, Nat.reduceEqDiff, Nat.reduceBEq, Nat.reduceLeDiff, Int.reduceToNat, Int.reduceLT, Int.reduceLE, Int.reduceEq, reduceCtorEq, ↓reduceIte, X44_6, k44_6]
  cases b47 : (eqI a1.kind 7 : Bool)
  · replace h := br_f b47 h
    try simp -implicitDefEqProofs only [go_sem, Nat.reduceLT, Nat.reduceAdd, Nat.reduceSub, Nat.reduceMul, Nat.reduceEqDiff, Nat.reduceBEq, Nat.reduceLeDiff, Int.reduceToNat, Int.reduceLT, Int.reduceLE, Int.reduceEq, reduceCtorEq, ↓reduceIte, X44_6, k44_6, b47]
    cases b48 : (eqI a1.kind 8 : Bool)
    · replace h := br_f b48 h
      cases h
      simp -implicitDefEqProofs only [go_sem, Nat.reduceLT, Nat.reduceAdd, Nat.reduceSub, Nat.reduceMul, Nat.reduceEqDiff, Nat.reduceBEq, Nat.reduceLeDiff, Int.reduceToNat, Int.reduceLT, Int.reduceLE, Int.reduceEq, reduceCtorEq, ↓reduceIte, X44_6, k44_6, b47, b48]
    · replace h := br_t b48 h
      cases h
      simp -implicitDefEqProofs only [go_sem, Nat.reduceLT, Nat.reduceAdd, Nat.reduceSub, Nat.reduceMul, Nat.reduceEqDiff, Nat.reduceBEq, Nat.reduceLeDiff, Int.reduceToNat, Int.reduceLT, Int.reduceLE, Int.reduceEq, reduceCtorEq, ↓reduceIte, X44_6, k44_6, b47, b48]
  · replace h := br_t b47 h
    cases h
    simp -implicitDefEqProofs only [go_sem, Nat.reduceLT, Nat.reduceAdd, Nat.reduceSub, Nat.reduceMul, Nat.reduceEqDiff, Nat.reduceBEq, Nat.reduceLeDiff, Int.reduceToNat, Int.reduceLT, Int.reduceLE, Int.reduceEq, reduceCtorEq, ↓reduceIte, X44_6, k44_6, b47]
theorem call44 (args : List AV) (S : St) : evCall T (evFL T) 44 args S = lendC (evFL T 44) S (lendAll S [[0, 0, 0, 0, 0], [0, 0]] args) := evCall0 fn44 rfl rfl args S
theorem callz44 (args : List AV) (S : St) : evCallFz T (evFL T) 44 args S = lendZ (evFL T 44) S [[0, 0, 0, 0, 0], [1]] (lendAll S [[0, 0, 0, 0, 0], [0, 0]] args) := evCallFz0 fn44 rfl rfl args S
attribute [go_sem] call44 callz44
theorem e44 (a0 : Session) (a1 : Evt) (r : (Session × (List Int))) (h : m44 a0 a1 = some r) : evFL T 44 [.agg [.int .i64 a0.state, .int .i64 a0.hold, .int .i64 a0.left, .int .i64 a0.quiet, .int .i64 a0.ups], .agg [.int .i64 a1.kind, .int .i64 a1.n]] [] = some (.tup [.agg [.int .i64 r.1.state, .int .i64 r.1.hold, .int .i64 r.1.left, .int .i64 r.1.quiet, .int .i64 r.1.ups], .sl 0 0 r.2.length], [some ⟨.arr, 1, r.2.map encInt⟩]) := by
  unfold m44 at h
  rw [evFL_at fn44 (Nat.le_of_ble_eq_true rfl) rfl (.inr rfl)]
  obtain ⟨v5, q3, h⟩ := bnd_some h
  have w4 := e44_1 (leI 2 a0.state) a0 a1 v5 q3
  simp only [X44_1] at w4
  try simp -implicitDefEqProofs only [go_sem, Nat.reduceLT, Nat.reduceAdd, Nat.reduceSub, Nat.reduceMul, Nat.reduceEqDiff, Nat.reduceBEq, Nat.reduceLeDiff, Int.reduceToNat, Int.reduceLT, Int.reduceLE, Int.reduceEq, reduceCtorEq, ↓reduceIte] at w4
  try simp -implicitDefEqProofs only [go_sem, Nat.reduceLT, Nat.reduceAdd, Nat.reduceSub, Nat.reduceMul, Nat.reduceEqDiff, Nat.reduceBEq, Nat.reduceLeDiff, Int.reduceToNat, Int.reduceLT, Int.reduceLE, Int.reduceEq, reduceCtorEq, ↓reduceIte, i44, c44, w4]
  cases b6 : (v5 : Bool)
  · replace h := br_f b6 h
    obtain ⟨v14, q12, h⟩ := bnd_some h
    have w13 := e44_2 (leI 2 a0.state) a0 a1 v14 q12
    simp only [X44_2] at w13
    try simp -implicitDefEqProofs only [go_sem, Nat.reduceLT, Nat.reduceAdd, Nat.reduceSub, Nat.reduceMul, Nat.reduceEqDiff, Nat.reduceBEq, Nat.reduceLeDiff, Int.reduceToNat, Int.reduceLT, Int.reduceLE, Int.reduceEq, reduceCtorEq, ↓reduceIte] at w13
    try simp -implicitDefEqProofs only [go_sem, Nat.reduceLT, Nat.reduceAdd, Nat.reduceSub, Nat.reduceMul, Nat.reduceEqDiff, Nat.reduceBEq, Nat.reduceLeDiff, Int.reduceToNat, Int.reduceLT, Int.reduceLE, Int.reduceEq, reduceCtorEq, ↓reduceIte, i44, c44, w4, b6, w13]
    cases b15 : (v14 : Bool)
    · replace h := br_f b15 h
      obtain ⟨v23, q21, h⟩ := bnd_some h
      have w22 := e44_3 (leI 2 a0.state) a0 a1 v23 q21
      simp only [X44_3] at w22
      try simp -implicitDefEqProofs only [go_sem, Nat.reduceLT, Nat.reduceAdd, Nat.reduceSub, Nat.reduceMul, Nat.reduceEqDiff, Nat.reduceBEq, Nat.reduceLeDiff, Int.reduceToNat, Int.reduceLT, Int.reduceLE, Int.reduceEq, reduceCtorEq, ↓reduceIte] at w22
      try simp -implicitDefEqProofs only [go_sem, Nat.reduceLT, Nat.reduceAdd, Nat.reduceSub, Nat.reduceMul, Nat.reduceEqDiff, Nat.reduceBEq, Nat.reduceLeDiff, Int.reduceToNat, Int.reduceLT, Int.reduceLE, Int.reduceEq, reduceCtorEq, ↓reduceIte, i44, c44, w4, b6, w13, b15, w22]
      cases b24 : (v23 : Bool)
      · replace h := br_f b24 h
        try simp -implicitDefEqProofs only [go_sem, Nat.reduceLT, Nat.reduceAdd, Nat.reduceSub, Nat.reduceMul, Nat.reduceEqDiff, Nat.reduceBEq, Nat.reduceLeDiff, Int.reduceToNat, Int.reduceLT, Int.reduceLE, Int.reduceEq, reduceCtorEq, ↓reduceIte, i44, c44, w4, b6, w13, b15, w22, b24]
        cases b28 : (leI 2 a0.state : Bool)
        · replace h := br_f b28 h
          cases h
          simp -implicitDefEqProofs only [go_sem, Nat.reduceLT, Nat.reduceAdd, Nat.reduceSub, Nat.reduceMul, Nat.reduceEqDiff, Nat.reduceBEq, Nat.reduceLeDiff, Int.reduceToNat, Int.reduceLT, Int.reduceLE, Int.reduceEq, reduceCtorEq, ↓reduceIte, i44, c44, w4, b6, w13, b15, w22, b24, b28]
        · replace h := br_t b28 h
          try simp -implicitDefEqProofs only [go_sem, Nat.reduceLT, Nat.reduceAdd, Nat.reduceSub, Nat.reduceMul, Nat.reduceEqDiff, Nat.reduceBEq, Nat.reduceLeDiff, Int.reduceToNat, Int.reduceLT, Int.reduceLE, Int.reduceEq, reduceCtorEq, ↓reduceIte, i44, c44, w4, b6, w13, b15, w22, b24, b28]
          cases b29 : (eqI a1.kind 4 : Bool)
          · replace h := br_f b29 h
            obtain ⟨v37, q35, h⟩ := bnd_some h
            have w36 := e44_4 a0 a1 v37 q35
            simp only [X44_4] at w36
            try simp -implicitDefEqProofs only [go_sem, Nat.reduceLT, Nat.reduceAdd, Nat.reduceSub, Nat.reduceMul, Nat.reduceEqDiff, Nat.reduceBEq, Nat.reduceLeDiff, Int.reduceToNat, Int.reduceLT, Int.reduceLE, Int.reduceEq, reduceCtorEq, ↓reduceIte] at w36
            try simp -implicitDefEqProofs only [go_sem, Nat.reduceLT, Nat.reduceAdd, Nat.reduceSub, Nat.reduceMul, Nat.reduceEqDiff, Nat.reduceBEq, Nat.reduceLeDiff, Int.reduceToNat, Int.reduceLT, Int.reduceLE, Int.reduceEq, reduceCtorEq, ↓reduceIte, i44, c44, w4, b6, w13, b15, w22, b24, b28, b29, w36]
            cases b38 : (v37 : Bool)
            · replace h := br_f b38 h
              obtain ⟨v45, q43, h⟩ := bnd_some h
              have w44 := e44_5 a0 a1 v45 q43
              simp only [X44_5] at w44
              try simp -implicitDefEqProofs only [go_sem, Nat.reduceLT, Nat.reduceAdd, Nat.reduceSub, Nat.reduceMul, Nat.reduceEqDiff, Nat.reduceBEq, Nat.reduceLeDiff, Int.reduceToNat, Int.reduceLT, Int.reduceLE, Int.reduceEq, reduceCtorEq, ↓reduceIte] at w44
              try simp -implicitDefEqProofs only [go_sem, Nat.reduceLT, Nat.reduceAdd, Nat.reduceSub, Nat.reduceMul, Nat.reduceEqDiff, Nat.reduceBEq, Nat.reduceLeDiff, Int.reduceToNat, Int.reduceLT, Int.reduceLE, Int.reduceEq, reduceCtorEq, ↓reduceIte, i44, c44, w4, b6, w13, b15, w22, b24, b28, b29, w36, b38, w44]
              cases b46 : (v45 : Bool)
              · replace h := br_f b46 h
                obtain ⟨v51, q49, h⟩ := bnd_some h
                have w50 := e44_6 a0 a1 v51 q49
                simp only [X44_6] at w50
                try simp -implicitDefEqProofs only [go_sem, Nat.reduceLT, Nat.reduceAdd, Nat.reduceSub, Nat.reduceMul, Nat.reduceEqDiff, Nat.reduceBEq, Nat.reduceLeDiff, Int.reduceToNat, Int.reduceLT, Int.reduceLE, Int.reduceEq, reduceCtorEq, ↓reduceIte] at w50
                try simp -implicitDefEqProofs only [go_sem, Nat.reduceLT, Nat.reduceAdd, Nat.reduceSub, Nat.reduceMul, Nat.reduceEqDiff, Nat.reduceBEq, Nat.reduceLeDiff, Int.reduceToNat, Int.reduceLT, Int.reduceLE, Int.reduceEq, reduceCtorEq, ↓reduceIte, i44, c44, w4, b6, w13, b15, w22, b24, b28, b29, w36, b38, w44, b46, w50]
                cases b52 : (v51 : Bool)
                · replace h := br_f b52 h
                  try simp -implicitDefEqProofs only [go_sem, Nat.reduceLT, Nat.reduceAdd, Nat.reduceSub, Nat.reduceMul, Nat.reduceEqDiff, Nat.reduceBEq, Nat.reduceLeDiff, Int.reduceToNat, Int.reduceLT, Int.reduceLE, Int.reduceEq, reduceCtorEq, ↓reduceIte, i44, c44, w4, b6, w13, b15, w22, b24, b28, b29, w36, b38, w44, b46, w50, b52]
                  cases b53 : (eqI a1.kind 9 : Bool)
                  · replace h := br_f b53 h
                    try simp -implicitDefEqProofs only [go_sem, Nat.reduceLT, Nat.reduceAdd, Nat.reduceSub, Nat.reduceMul, Nat.reduceEqDiff, Nat.reduceBEq, Nat.reduceLeDiff, Int.reduceToNat, Int.reduceLT, Int.reduceLE, Int.reduceEq, reduceCtorEq, ↓reduceIte, i44, c44, w4, b6, w13, b15, w22, b24, b28, b29, w36, b38, w44, b46, w50, b52, b53]
                    cases b57 : (eqI a1.kind 10 : Bool)
                    · replace h := br_f b57 h
                      obtain ⟨r64, q62, h⟩ := bnd_some h
                      have w63 := e61 a0 0 r64 q62
                      try simp -implicitDefEqProofs only [go_sem, Nat.reduceLT, Nat.reduceAdd, Nat.reduceSub, Nat.reduceMul, Nat.reduceEqDiff, Nat.reduceBEq, Nat.reduceLeDiff, Int.reduceToNat, Int.reduceLT, Int.reduceLE, Int.reduceEq, reduceCtorEq, ↓reduceIte] at w63
                      cases h
                      simp -implicitDefEqProofs only [go_sem, Nat.reduceLT, Nat.reduceAdd, Nat.reduceSub, Nat.reduceMul, Nat.reduceEqDiff, Nat.reduceBEq, Nat.reduceLeDiff, Int.reduceToNat, Int.reduceLT, Int.reduceLE, Int.reduceEq, reduceCtorEq, ↓reduceIte, i44, c44, w4, b6, w13, b15, w22, b24, b28, b29, w36, b38, w44, b46, w50, b52, b53, b57, w63]
                    · replace h := br_t b57 h
                      obtain ⟨⟨r60, r61⟩, q58, h⟩ := bnd_some h
                      replace h := sel2_some h
                      have w59 := e62 a0 (r60, r61) q58
                      try simp -implicitDefEqProofs only [go_sem, Nat.reduceLT, Nat.reduceAdd, Nat.reduceSub, Nat.reduceMul, Nat.reduceEqDiff, Nat.reduceBEq, Nat.reduceLeDiff, Int.reduceToNat, Int.reduceLT, Int.reduceLE, Int.reduceEq, reduceCtorEq, ↓reduceIte] at w59
                      cases h
                      simp -implicitDefEqProofs only [go_sem, Nat.reduceLT, Nat.reduceAdd, Nat.reduceSub, Nat.reduceMul, Nat.reduceEqDiff, Nat.reduceBEq, Nat.reduceLeDiff, Int.reduceToNat, Int.reduceLT, Int.reduceLE, Int.reduceEq, reduceCtorEq, ↓reduceIte, i44, c44, w4, b6, w13, b15, w22, b24, b28, b29, w36, b38, w44, b46, w50, b52, b53, b57, w59]
                  · replace h := br_t b53 h
                    obtain ⟨r56, q54, h⟩ := bnd_some h
                    have w55 := e61 a0 0 r56 q54
                    try simp -implicitDefEqProofs only [go_sem, Nat.reduceLT, Nat.reduceAdd, Nat.reduceSub, Nat.reduceMul, Nat.reduceEqDiff, Nat.reduceBEq, Nat.reduceLeDiff, Int.reduceToNat, Int.reduceLT, Int.reduceLE, Int.reduceEq, reduceCtorEq, ↓reduceIte] at w55
                    cases h
                    simp -implicitDefEqProofs only [go_sem, Nat.reduceLT, Nat.reduceAdd, Nat.reduceSub, Nat.reduceMul, Nat.reduceEqDiff, Nat.reduceBEq, Nat.reduceLeDiff, Int.reduceToNat, Int.reduceLT, Int.reduceLE, Int.reduceEq, reduceCtorEq, ↓reduceIte, i44, c44, w4, b6, w13, b15, w22, b24, b28, b29, w36, b38, w44, b46, w50, b52, b53, w55]
                · replace h := br_t b52 h
                  cases h
                  simp -implicitDefEqProofs only [go_sem, Nat.reduceLT, Nat.reduceAdd, Nat.reduceSub, Nat.reduceMul, Nat.reduceEqDiff, Nat.reduceBEq, Nat.reduceLeDiff, Int.reduceToNat, Int.reduceLT, Int.reduceLE, Int.reduceEq, reduceCtorEq, ↓reduceIte, i44, c44, w4, b6, w13, b15, w22, b24, b28, b29, w36, b38, w44, b46, w50, b52]
              · replace h := br_t b46 h
                cases h
                simp -implicitDefEqProofs only [go_sem, Nat.reduceLT, Nat.reduceAdd, Nat.reduceSub, Nat.reduceMul, Nat.reduceEqDiff, Nat.reduceBEq, Nat.reduceLeDiff, Int.reduceToNat, Int.reduceLT, Int.reduceLE, Int.reduceEq, reduceCtorEq, ↓reduceIte, i44, c44, w4, b6, w13, b15, w22, b24, b28, b29, w36, b38, w44, b46]
            · replace h := br_t b38 h
              obtain ⟨r41, q39, h⟩ := bnd_some h
              have w40 := e61 a0 3 r41 q39
              try simp -implicitDefEqProofs only [go_sem, Nat.reduceLT, Nat.reduceAdd, Nat.reduceSub, Nat.reduceMul, Nat.reduceEqDiff, Nat.reduceBEq, Nat.reduceLeDiff, Int.reduceToNat, Int.reduceLT, Int.reduceLE, Int.reduceEq, reduceCtorEq, ↓reduceIte] at w40
              cases h
              simp -implicitDefEqProofs only [go_sem, Nat.reduceLT, Nat.reduceAdd, Nat.reduceSub, Nat.reduceMul, Nat.reduceEqDiff, Nat.reduceBEq, Nat.reduceLeDiff, Int.reduceToNat, Int.reduceLT, Int.reduceLE, Int.reduceEq, reduceCtorEq, ↓reduceIte, i44, c44, w4, b6, w13, b15, w22, b24, b28, b29, w36, b38, w40]
          · replace h := br_t b29 h
            obtain ⟨r32, q30, h⟩ := bnd_some h
            have w31 := e61 a0 1 r32 q30
            try simp -implicitDefEqProofs only [go_sem, Nat.reduceLT, Nat.reduceAdd, Nat.reduceSub, Nat.reduceMul, Nat.reduceEqDiff, Nat.reduceBEq, Nat.reduceLeDiff, Int.reduceToNat, Int.reduceLT, Int.reduceLE, Int.reduceEq, reduceCtorEq, ↓reduceIte] at w31
            cases h
            simp -implicitDefEqProofs only [go_sem, Nat.reduceLT, Nat.reduceAdd, Nat.reduceSub, Nat.reduceMul, Nat.reduceEqDiff, Nat.reduceBEq, Nat.reduceLeDiff, Int.reduceToNat, Int.reduceLT, Int.reduceLE, Int.reduceEq, reduceCtorEq, ↓reduceIte, i44, c44, w4, b6, w13, b15, w22, b24, b28, b29, w31]
      · replace h := br_t b24 h
        obtain ⟨r27, q25, h⟩ := bnd_some h
        have w26 := e61 a0 2 r27 q25
        try simp -implicitDefEqProofs only [go_sem, Nat.reduceLT, Nat.reduceAdd, Nat.reduceSub, Nat.reduceMul, Nat.reduceEqDiff, Nat.reduceBEq, Nat.reduceLeDiff, Int.reduceToNat, Int.reduceLT, Int.reduceLE, Int.reduceEq, reduceCtorEq, ↓reduceIte] at w26
        cases h
        simp -implicitDefEqProofs only [go_sem, Nat.reduceLT, Nat.reduceAdd, Nat.reduceSub, Nat.reduceMul, Nat.reduceEqDiff, Nat.reduceBEq, Nat.reduceLeDiff, Int.reduceToNat, Int.reduceLT, Int.reduceLE, Int.reduceEq, reduceCtorEq, ↓reduceIte, i44, c44, w4, b6, w13, b15, w22, b24, w26]
    · replace h := br_t b15 h
      obtain ⟨r18, q16, h⟩ := bnd_some h
      have w17 := e61 a0 0 r18 q16
      try simp -implicitDefEqProofs only [go_sem, Nat.reduceLT, Nat.reduceAdd, Nat.reduceSub, Nat.reduceMul, Nat.reduceEqDiff, Nat.reduceBEq, Nat.reduceLeDiff, Int.reduceToNat, Int.reduceLT, Int.reduceLE, Int.reduceEq, reduceCtorEq, ↓reduceIte] at w17
      cases h
      simp -implicitDefEqProofs only [go_sem, Nat.reduceLT, Nat.reduceAdd, Nat.reduceSub, Nat.reduceMul, Nat.reduceEqDiff, Nat.reduceBEq, Nat.reduceLeDiff, Int.reduceToNat, Int.reduceLT, Int.reduceLE, Int.reduceEq, reduceCtorEq, ↓reduceIte, i44, c44, w4, b6, w13, b15, w17]
  · replace h := br_t b6 h
    obtain ⟨r9, q7, h⟩ := bnd_some h
    have w8 := e61 a0 1 r9 q7
    try simp -implicitDefEqProofs only [go_sem, Nat.reduceLT, Nat.reduceAdd, Nat.reduceSub, Nat.reduceMul, Nat.reduceEqDiff, Nat.reduceBEq, Nat.reduceLeDiff, Int.reduceToNat, Int.reduceLT, Int.reduceLE, Int.reduceEq, reduceCtorEq, ↓reduceIte] at w8
    cases h
    simp -implicitDefEqProofs only [go_sem, Nat.reduceLT, Nat.reduceAdd, Nat.reduceSub, Nat.reduceMul, Nat.reduceEqDiff, Nat.reduceBEq, Nat.reduceLeDiff, Int.reduceToNat, Int.reduceLT, Int.reduceLE, Int.reduceEq, reduceCtorEq, ↓reduceIte, i44, c44, w4, b6, w8]
-- f28 impl.PlayEvents
def X28_1 (a1 : (List Evt)) (r4 : Bool) (r3 : Session) (o : Bool) : Ex × Fr × St :=
  (.normal, frOf 51 (upd (upd (upd (upd anyF 1 (.ts .imm 2 (a1.map encEvt))) 4 (.ptr 0 0 0)) 7 (.ptr 1 0 0)) 29 (.bool o)), [some ⟨.box, 5, [[.int .i64 0, .int .i64 0, .int .i64 0, .int .i64 0, .int .i64 0]]⟩, some ⟨.box, 5, [[.int .i64 r3.state, .int .i64 r3.hold, .int .i64 r3.left, .int .i64 r3.quiet, .int .i64 r3.ups]]⟩])
theorem e28_1 (a1 : (List Evt)) (r4 : Bool) (r3 : Session) (o : Bool) (h : m28_1 a1 r4 = some o) : evCL T 0 k28_1 (frOf 51 (upd (upd (upd (upd anyF 1 (.ts .imm 2 (a1.map encEvt))) 4 (.ptr 0 0 0)) 7 (.ptr 1 0 0)) 8 (.bool r4))) [some ⟨.box, 5, [[.int .i64 0, .int .i64 0, .int .i64 0, .int .i64 0, .int .i64 0]]⟩, some ⟨.box, 5, [[.int .i64 r3.state, .int .i64 r3.hold, .int .i64 r3.left, .int .i64 r3.quiet, .int .i64 r3.ups]]⟩] = some (X28_1 a1 r4 r3 o) := by
  unfold m28_1 at h
  try simp -implicitDefEqProofs only [go_sem, Nat.reduceLT, Nat.reduceAdd, Nat.reduceSub, Nat.reduceMul, Nat.reduceEqDiff, Nat.reduceBEq, Nat.reduceLeDiff, Int.reduceToNat, Int.reduceLT, Int.reduceLE, Int.reduceEq, reduceCtorEq, ↓reduceIte, X28_1, k28_1]
  cases b5 : (r4 : Bool)
  · replace h := br_f b5 h
    cases h
    simp -implicitDefEqProofs only [go_sem, Nat.reduceLT, Nat.reduceAdd, Nat.reduceSub, Nat.reduceMul, Nat.reduceEqDiff, Nat.reduceBEq, Nat.reduceLeDiff, Int.reduceToNat, Int.reduceLT, Int.reduceLE, Int.reduceEq, reduceCtorEq, ↓reduceIte, X28_1, k28_1, b5]
  · replace h := br_t b5 h
    try simp -implicitDefEqProofs only [go_sem, Nat.reduceLT, Nat.reduceAdd, Nat.reduceSub, Nat.reduceMul, Nat.reduceEqDiff, Nat.reduceBEq, Nat.reduceLeDiff, Int.reduceToNat, Int.reduceLT, Int.reduceLE, Int.reduceEq, reduceCtorEq, ↓reduceIte, X28_1, k28_1, b5]
    cases b6 : (ltI 100 (↑a1.length : Int) : Bool)
    · replace h := br_f b6 h
      obtain ⟨r9, q7, h⟩ := bnd_some h
      have w8 := e45 a1 (fun y0 => m46 y0) 46 [] ⟨⟨fun S => by simp -implicitDefEqProofs only [go_sem, Nat.reduceLT, Nat.reduceAdd, Nat.reduceSub, Nat.reduceMul, Nat.reduceEqDiff, Nat.reduceBEq, Nat.reduceLeDiff, Int.reduceToNat, Int.reduceLT, Int.reduceLE, Int.reduceEq, reduceCtorEq, ↓reduceIte], fun _ _ _ _ _ _ => by simp -implicitDefEqProofs only [go_sem, Nat.reduceLT, Nat.reduceAdd, Nat.reduceSub, Nat.reduceMul, Nat.reduceEqDiff, Nat.reduceBEq, Nat.reduceLeDiff, Int.reduceToNat, Int.reduceLT, Int.reduceLE, Int.reduceEq, reduceCtorEq, ↓reduceIte]⟩, fun y0 r h => ⟨fun S => by simp -implicitDefEqProofs only [go_sem, Nat.reduceLT, Nat.reduceAdd, Nat.reduceSub, Nat.reduceMul, Nat.reduceEqDiff, Nat.reduceBEq, Nat.reduceLeDiff, Int.reduceToNat, Int.reduceLT, Int.reduceLE, Int.reduceEq, reduceCtorEq, ↓reduceIte, e46 y0 r h], fun S => by simp -implicitDefEqProofs only [go_sem, Nat.reduceLT, Nat.reduceAdd, Nat.reduceSub, Nat.reduceMul, Nat.reduceEqDiff, Nat.reduceBEq, Nat.reduceLeDiff, Int.reduceToNat, Int.reduceLT, Int.reduceLE, Int.reduceEq, reduceCtorEq, ↓reduceIte, e46 y0 r h]⟩⟩ r9 q7
      try simp -implicitDefEqProofs only [go_sem, Nat.reduceLT, Nat.reduceAdd, Nat.reduceSub, Nat.reduceMul, Nat.reduceEqDiff, Nat.reduceBEq, Nat.reduceLeDiff, Int.reduceToNat, Int.reduceLT, Int.reduceLE, Int.reduceEq, reduceCtorEq, ↓reduceIte] at w8
      cases h
      simp -implicitDefEqProofs only [go_sem, Nat.reduceLT, Nat.reduceAdd, Nat.reduceSub, Nat.reduceMul, Nat.reduceEqDiff, Nat.reduceBEq, Nat.reduceLeDiff, Int.reduceToNat, Int.reduceLT, Int.reduceLE, Int.reduceEq, reduceCtorEq, ↓reduceIte, X28_1, k28_1, b5, b6, w8]
    · replace h := br_t b6 h
      cases h
      simp -implicitDefEqProofs only [go_sem, Nat.reduceLT, Nat.reduceAdd, Nat.reduceSub, Nat.reduceMul, Nat.reduceEqDiff, Nat.reduceBEq, Nat.reduceLeDiff, Int.reduceToNat, Int.reduceLT, Int.reduceLE, Int.reduceEq, reduceCtorEq, ↓reduceIte, X28_1, k28_1, b5, b6]
def X28_2 (a1 : (List Evt)) (p14 : Int) (o : (Int × Int × Int × Int × Int × List Int)) : Ex × Fr × St :=
  (.exit 0, frOf 51 (upd (upd (upd anyF 4 (.ptr 0 0 0)) 7 (.ptr 1 0 0)) 9 (.sl 2 0 o.2.2.2.2.2.length)), [some ⟨.box, 5, [[.int .i64 0, .int .i64 0, .int .i64 0, .int .i64 0, .int .i64 0]]⟩, some ⟨.box, 5, [[.int .i64 o.1, .int .i64 o.2.1, .int .i64 o.2.2.1, .int .i64 o.2.2.2.1, .int .i64 o.2.2.2.2.1]]⟩, some ⟨.arr, 1, o.2.2.2.2.2.map encInt⟩])
def E28_2 (a1 : (List Evt)) (p14 : Int) (s : (Int × Int × Int × Int × Int × Int × List Int)) : Fr × St := (frOf 51 (upd (upd (upd (upd (upd (upd anyF 4 (.ptr 0 0 0)) 7 (.ptr 1 0 0)) 9 (.sl 2 0 s.2.2.2.2.2.2.length)) 32 (.ts .imm 2 (a1.map encEvt))) 33 (.int .i64 p14)) 34 (.int .i64 s.1)), [some ⟨.box, 5, [[.int .i64 0, .int .i64 0, .int .i64 0, .int .i64 0, .int .i64 0]]⟩, some ⟨.box, 5, [[.int .i64 s.2.1, .int .i64 s.2.2.1, .int .i64 s.2.2.2.1, .int .i64 s.2.2.2.2.1, .int .i64 s.2.2.2.2.2.1]]⟩, some ⟨.arr, 1, s.2.2.2.2.2.2.map encInt⟩])
theorem b28_2 (a1 : (List Evt)) (p14 : Int) (s : (Int × Int × Int × Int × Int × Int × List Int)) (o : Ctl (Int × Int × Int × Int × Int × Int × List Int) (Int × Int × Int × Int × Int × List Int)) (h : m28_2b a1 p14 s = some o) : evCL T 0 k28_2b (E28_2 a1 p14 s).1 (E28_2 a1 p14 s).2 = some (ctlX (E28_2 a1 p14) (X28_2 a1 p14) o) := by
  unfold m28_2b at h
  obtain ⟨s26, s27, s28, s29, s30, s31, s32⟩ := s
  replace h := sel7_some h
  try simp -implicitDefEqProofs only [go_sem, Nat.reduceLT, Nat.reduceAdd, Nat.reduceSub, Nat.reduceMul, Nat.reduceEqDiff, Nat.reduceBEq, Nat.reduceLeDiff, Int.reduceToNat, Int.reduceLT, Int.reduceLE, Int.reduceEq, reduceCtorEq, ↓reduceIte, E28_2, X28_2, k28_2b]
  cases b33 : (ltI s26 p14 : Bool)
  · replace h := br_f b33 h
    cases h
    simp -implicitDefEqProofs only [go_sem, Nat.reduceLT, Nat.reduceAdd, Nat.reduceSub, Nat.reduceMul, Nat.reduceEqDiff, Nat.reduceBEq, Nat.reduceLeDiff, Int.reduceToNat, Int.reduceLT, Int.reduceLE, Int.reduceEq, reduceCtorEq, ↓reduceIte, E28_2, X28_2, k28_2b, b33]
  · replace h := br_t b33 h
    obtain ⟨x34, q35, h⟩ := bnd_some h
    obtain ⟨g36, g37, g38⟩ := idx_row encEvt q35
    try simp -implicitDefEqProofs only [go_sem, Nat.reduceLT, Nat.reduceAdd, Nat.reduceSub, Nat.reduceMul, Nat.reduceEqDiff, Nat.reduceBEq, Nat.reduceLeDiff, Int.reduceToNat, Int.reduceLT, Int.reduceLE, Int.reduceEq, reduceCtorEq, ↓reduceIte] at g37
    try simp -implicitDefEqProofs only [go_sem, Nat.reduceLT, Nat.reduceAdd, Nat.reduceSub, Nat.reduceMul, Nat.reduceEqDiff, Nat.reduceBEq, Nat.reduceLeDiff, Int.reduceToNat, Int.reduceLT, Int.reduceLE, Int.reduceEq, reduceCtorEq, ↓reduceIte] at g38
    obtain ⟨⟨r41, r42⟩, q39, h⟩ := bnd_some h
    replace h := sel2_some h
    have w40 := e44 (⟨s27, s28, s29, s30, s31⟩ : Session) x34 (r41, r42) q39
    try simp -implicitDefEqProofs only [go_sem, Nat.reduceLT, Nat.reduceAdd, Nat.reduceSub, Nat.reduceMul, Nat.reduceEqDiff, Nat.reduceBEq, Nat.reduceLeDiff, Int.reduceToNat, Int.reduceLT, Int.reduceLE, Int.reduceEq, reduceCtorEq, ↓reduceIte] at w40
    obtain ⟨g43, h⟩ := ck_some h
    try simp -implicitDefEqProofs only [go_sem, Nat.reduceLT, Nat.reduceAdd, Nat.reduceSub, Nat.reduceMul, Nat.reduceEqDiff, Nat.reduceBEq, Nat.reduceLeDiff, Int.reduceToNat, Int.reduceLT, Int.reduceLE, Int.reduceEq, reduceCtorEq, ↓reduceIte] at g43
    cases h
    simp -implicitDefEqProofs only [go_sem, Nat.reduceLT, Nat.reduceAdd, Nat.reduceSub, Nat.reduceMul, Nat.reduceEqDiff, Nat.reduceBEq, Nat.reduceLeDiff, Int.reduceToNat, Int.reduceLT, Int.reduceLE, Int.reduceEq, reduceCtorEq, ↓reduceIte, E28_2, X28_2, k28_2b, b33, g36, g37, g38, w40, g43]
theorem e28_2 (a1 : (List Evt)) (p14 : Int) (s : (Int × Int × Int × Int × Int × Int × List Int)) (o : (Int × Int × Int × Int × Int × List Int)) (h : loopP (m28_2b a1 p14) s = some o) : evCL T 0 (.loop k28_2b) (E28_2 a1 p14 s).1 (E28_2 a1 p14 s).2 = some (X28_2 a1 p14 o) :=
  loop_walk (E := E28_2 a1 p14) (X := X28_2 a1 p14) (by intro b; (simp only [X28_2]; nofun)) (b28_2 a1 p14) s o h
theorem call28 (args : List AV) (S : St) : evCall T (evFL T) 28 args S = lendC (evFL T 28) S (lendAll S [[0], [2]] args) := evCall0 fn28 rfl rfl args S
theorem callz28 (args : List AV) (S : St) : evCallFz T (evFL T) 28 args S = lendZ (evFL T 28) S [[0, 0, 0, 0, 0], [1], [0]] (lendAll S [[0], [2]] args) := evCallFz0 fn28 rfl rfl args S
attribute [go_sem] call28 callz28
theorem e28 (a0 : Int) (a1 : (List Evt)) (r : (Session × (List Int) × Bool)) (h : m28 a0 a1 = some r) : evFL T 28 [.int .i64 a0, .ts .imm 2 (a1.map encEvt)] [] = some (.tup [.agg [.int .i64 r.1.state, .int .i64 r.1.hold, .int .i64 r.1.left, .int .i64 r.1.quiet, .int .i64 r.1.ups], .sl 0 0 r.2.1.length, .bool r.2.2], [some ⟨.arr, 1, r.2.1.map encInt⟩]) := by
  unfold m28 at h
  rw [evFL_at fn28 (Nat.le_of_ble_eq_true rfl) rfl (.inr rfl)]
  obtain ⟨⟨r3, r4⟩, q1, h⟩ := bnd_some h
  replace h := sel2_some h
  have w2 := e12 a0 (r3, r4) q1
  try simp -implicitDefEqProofs only [go_sem, Nat.reduceLT, Nat.reduceAdd, Nat.reduceSub, Nat.reduceMul, Nat.reduceEqDiff, Nat.reduceBEq, Nat.reduceLeDiff, Int.reduceToNat, Int.reduceLT, Int.reduceLE, Int.reduceEq, reduceCtorEq, ↓reduceIte] at w2
  obtain ⟨v12, q10, h⟩ := bnd_some h
  have w11 := e28_1 a1 r4 r3 v12 q10
  simp only [X28_1] at w11
  try simp -implicitDefEqProofs only [go_sem, Nat.reduceLT, Nat.reduceAdd, Nat.reduceSub, Nat.reduceMul, Nat.reduceEqDiff, Nat.reduceBEq, Nat.reduceLeDiff, Int.reduceToNat, Int.reduceLT, Int.reduceLE, Int.reduceEq, reduceCtorEq, ↓reduceIte] at w11
  try simp -implicitDefEqProofs only [go_sem, Nat.reduceLT, Nat.reduceAdd, Nat.reduceSub, Nat.reduceMul, Nat.reduceEqDiff, Nat.reduceBEq, Nat.reduceLeDiff, Int.reduceToNat, Int.reduceLT, Int.reduceLE, Int.reduceEq, reduceCtorEq, ↓reduceIte, i28, c28, w2, w11]
  cases b13 : (v12 : Bool)
  · replace h := br_f b13 h
    obtain ⟨⟨v46, v47, v48, v49, v50, v51⟩, q44, h⟩ := bnd_some h
    replace h := sel6_some h
    have w45 := e28_2 a1 (↑a1.length : Int) (0, r3.state, r3.hold, r3.left, r3.quiet, r3.ups, []) (v46, v47, v48, v49, v50, v51) q44
    simp only [E28_2, X28_2] at w45
    try simp -implicitDefEqProofs only [go_sem, Nat.reduceLT, Nat.reduceAdd, Nat.reduceSub, Nat.reduceMul, Nat.reduceEqDiff, Nat.reduceBEq, Nat.reduceLeDiff, Int.reduceToNat, Int.reduceLT, Int.reduceLE, Int.reduceEq, reduceCtorEq, ↓reduceIte] at w45
    cases h
    simp -implicitDefEqProofs only [go_sem, Nat.reduceLT, Nat.reduceAdd, Nat.reduceSub, Nat.reduceMul, Nat.reduceEqDiff, Nat.reduceBEq, Nat.reduceLeDiff, Int.reduceToNat, Int.reduceLT, Int.reduceLE, Int.reduceEq, reduceCtorEq, ↓reduceIte, i28, c28, w2, w11, b13, w45]
  · replace h := br_t b13 h
    cases h
    simp -implicitDefEqProofs only [go_sem, Nat.reduceLT, Nat.reduceAdd, Nat.reduceSub, Nat.reduceMul, Nat.reduceEqDiff, Nat.reduceBEq, Nat.reduceLeDiff, Int.reduceToNat, Int.reduceLT, Int.reduceLE, Int.reduceEq, reduceCtorEq, ↓reduceIte, i28, c28, w2, w11, b13]
-- f13 laws.eqSession
theorem call13 (args : List AV) (S : St) : evCall T (evFL T) 13 args S = lendC (evFL T 13) S (lendAll S [[0, 0, 0, 0, 0], [0, 0, 0, 0, 0]] args) := evCall0 fn13 rfl rfl args S
theorem callz13 (args : List AV) (S : St) : evCallFz T (evFL T) 13 args S = lendZ (evFL T 13) S [[0]] (lendAll S [[0, 0, 0, 0, 0], [0, 0, 0, 0, 0]] args) := evCallFz0 fn13 rfl rfl args S
attribute [go_sem] call13 callz13
theorem e13 (a0 : Session) (a1 : Session) (r : Bool) (h : m13 a0 a1 = some r) : evFL T 13 [.agg [.int .i64 a0.state, .int .i64 a0.hold, .int .i64 a0.left, .int .i64 a0.quiet, .int .i64 a0.ups], .agg [.int .i64 a1.state, .int .i64 a1.hold, .int .i64 a1.left, .int .i64 a1.quiet, .int .i64 a1.ups]] [] = some (.bool r, []) := by
  unfold m13 at h
  rw [evFL_at fn13 (Nat.le_of_ble_eq_true rfl) rfl (.inr rfl)]
  try simp -implicitDefEqProofs only [go_sem, Nat.reduceLT, Nat.reduceAdd, Nat.reduceSub, Nat.reduceMul, Nat.reduceEqDiff, Nat.reduceBEq, Nat.reduceLeDiff, Int.reduceToNat, Int.reduceLT, Int.reduceLE, Int.reduceEq, reduceCtorEq, ↓reduceIte, i13, c13]
  cases b1 : (eqI a0.state a1.state : Bool)
  · replace h := br_f b1 h
    cases h
    simp -implicitDefEqProofs only [go_sem, Nat.reduceLT, Nat.reduceAdd, Nat.reduceSub, Nat.reduceMul, Nat.reduceEqDiff, Nat.reduceBEq, Nat.reduceLeDiff, Int.reduceToNat, Int.reduceLT, Int.reduceLE, Int.reduceEq, reduceCtorEq, ↓reduceIte, i13, c13, b1]
  · replace h := br_t b1 h
    try simp -implicitDefEqProofs only [go_sem, Nat.reduceLT, Nat.reduceAdd, Nat.reduceSub, Nat.reduceMul, Nat.reduceEqDiff, Nat.reduceBEq, Nat.reduceLeDiff, Int.reduceToNat, Int.reduceLT, Int.reduceLE, Int.reduceEq, reduceCtorEq, ↓reduceIte, i13, c13, b1]
    cases b2 : (eqI a0.hold a1.hold : Bool)
    · replace h := br_f b2 h
      cases h
      simp -implicitDefEqProofs only [go_sem, Nat.reduceLT, Nat.reduceAdd, Nat.reduceSub, Nat.reduceMul, Nat.reduceEqDiff, Nat.reduceBEq, Nat.reduceLeDiff, Int.reduceToNat, Int.reduceLT, Int.reduceLE, Int.reduceEq, reduceCtorEq, ↓reduceIte, i13, c13, b1, b2]
    · replace h := br_t b2 h
      try simp -implicitDefEqProofs only [go_sem, Nat.reduceLT, Nat.reduceAdd, Nat.reduceSub, Nat.reduceMul, Nat.reduceEqDiff, Nat.reduceBEq, Nat.reduceLeDiff, Int.reduceToNat, Int.reduceLT, Int.reduceLE, Int.reduceEq, reduceCtorEq, ↓reduceIte, i13, c13, b1, b2]
      cases b3 : (eqI a0.left a1.left : Bool)
      · replace h := br_f b3 h
        cases h
        simp -implicitDefEqProofs only [go_sem, Nat.reduceLT, Nat.reduceAdd, Nat.reduceSub, Nat.reduceMul, Nat.reduceEqDiff, Nat.reduceBEq, Nat.reduceLeDiff, Int.reduceToNat, Int.reduceLT, Int.reduceLE, Int.reduceEq, reduceCtorEq, ↓reduceIte, i13, c13, b1, b2, b3]
      · replace h := br_t b3 h
        try simp -implicitDefEqProofs only [go_sem, Nat.reduceLT, Nat.reduceAdd, Nat.reduceSub, Nat.reduceMul, Nat.reduceEqDiff, Nat.reduceBEq, Nat.reduceLeDiff, Int.reduceToNat, Int.reduceLT, Int.reduceLE, Int.reduceEq, reduceCtorEq, ↓reduceIte, i13, c13, b1, b2, b3]
        cases b4 : (eqI a0.quiet a1.quiet : Bool)
        · replace h := br_f b4 h
          cases h
          simp -implicitDefEqProofs only [go_sem, Nat.reduceLT, Nat.reduceAdd, Nat.reduceSub, Nat.reduceMul, Nat.reduceEqDiff, Nat.reduceBEq, Nat.reduceLeDiff, Int.reduceToNat, Int.reduceLT, Int.reduceLE, Int.reduceEq, reduceCtorEq, ↓reduceIte, i13, c13, b1, b2, b3, b4]
        · replace h := br_t b4 h
          try simp -implicitDefEqProofs only [go_sem, Nat.reduceLT, Nat.reduceAdd, Nat.reduceSub, Nat.reduceMul, Nat.reduceEqDiff, Nat.reduceBEq, Nat.reduceLeDiff, Int.reduceToNat, Int.reduceLT, Int.reduceLE, Int.reduceEq, reduceCtorEq, ↓reduceIte, i13, c13, b1, b2, b3, b4]
          cases b5 : (eqI a0.ups a1.ups : Bool)
          · replace h := br_f b5 h
            cases h
            simp -implicitDefEqProofs only [go_sem, Nat.reduceLT, Nat.reduceAdd, Nat.reduceSub, Nat.reduceMul, Nat.reduceEqDiff, Nat.reduceBEq, Nat.reduceLeDiff, Int.reduceToNat, Int.reduceLT, Int.reduceLE, Int.reduceEq, reduceCtorEq, ↓reduceIte, i13, c13, b1, b2, b3, b4, b5]
          · replace h := br_t b5 h
            cases h
            simp -implicitDefEqProofs only [go_sem, Nat.reduceLT, Nat.reduceAdd, Nat.reduceSub, Nat.reduceMul, Nat.reduceEqDiff, Nat.reduceBEq, Nat.reduceLeDiff, Int.reduceToNat, Int.reduceLT, Int.reduceLE, Int.reduceEq, reduceCtorEq, ↓reduceIte, i13, c13, b1, b2, b3, b4, b5]
-- f22 laws.eqIntS
def X22_1 (a0 : (List Int)) (a1 : (List Int)) (o : (Unit ⊕ Unit)) : Ex × Fr × St :=
  match o with
  | .inl o => (.exit 0, frOf 26 (anyF), [])
  | .inr o => (.ret, frOf 26 (upd anyF 4 (.bool false)), [])
def E22_1 (a0 : (List Int)) (a1 : (List Int)) (s : Int) : Fr × St := (frOf 26 (upd (upd (upd anyF 0 (.ts .imm 1 (a0.map encInt))) 1 (.ts .imm 1 (a1.map encInt))) 5 (.int .i64 s)), [])
theorem b22_1 (a0 : (List Int)) (a1 : (List Int)) (s : Int) (o : Ctl Int (Unit ⊕ Unit)) (h : m22_1b a0 a1 s = some o) : evCL T 0 k22_1b (E22_1 a0 a1 s).1 (E22_1 a0 a1 s).2 = some (ctlX (E22_1 a0 a1) (X22_1 a0 a1) o) := by
  unfold m22_1b at h
  revert h
  generalize s = s14
  intro h
  try simp -implicitDefEqProofs only [go_sem, Nat.reduceLT, Nat.reduceAdd, Nat.reduceSub, Nat.reduceMul, Nat.reduceEqDiff, Nat.reduceBEq, Nat.reduceLeDiff, Int.reduceToNat, Int.reduceLT, Int.reduceLE, Int.reduceEq, reduceCtorEq, ↓reduceIte, E22_1, X22_1, k22_1b]
  cases b15 : (ltI s14 (↑a0.length : Int) : Bool)
  · replace h := br_f b15 h
    cases h
    simp -implicitDefEqProofs only [go_sem, Nat.reduceLT, Nat.reduceAdd, Nat.reduceSub, Nat.reduceMul, Nat.reduceEqDiff, Nat.reduceBEq, Nat.reduceLeDiff, Int.reduceToNat, Int.reduceLT, Int.reduceLE, Int.reduceEq, reduceCtorEq, ↓reduceIte, E22_1, X22_1, k22_1b, b15]
  · replace h := br_t b15 h
    obtain ⟨x16, q17, h⟩ := bnd_some h
    obtain ⟨g18, g19, g20⟩ := idx_row encInt q17
    try simp -implicitDefEqProofs only [go_sem, Nat.reduceLT, Nat.reduceAdd, Nat.reduceSub, Nat.reduceMul, Nat.reduceEqDiff, Nat.reduceBEq, Nat.reduceLeDiff, Int.reduceToNat, Int.reduceLT, Int.reduceLE, Int.reduceEq, reduceCtorEq, ↓reduceIte] at g19
    try simp -implicitDefEqProofs only [go_sem, Nat.reduceLT, Nat.reduceAdd, Nat.reduceSub, Nat.reduceMul, Nat.reduceEqDiff, Nat.reduceBEq, Nat.reduceLeDiff, Int.reduceToNat, Int.reduceLT, Int.reduceLE, Int.reduceEq, reduceCtorEq, ↓reduceIte] at g20
    obtain ⟨x21, q22, h⟩ := bnd_some h
    obtain ⟨g23, g24, g25⟩ := idx_row encInt q22
    try simp -implicitDefEqProofs only [go_sem, Nat.reduceLT, Nat.reduceAdd, Nat.reduceSub, Nat.reduceMul, Nat.reduceEqDiff, Nat.reduceBEq, Nat.reduceLeDiff, Int.reduceToNat, Int.reduceLT, Int.reduceLE, Int.reduceEq, reduceCtorEq, ↓reduceIte] at g24
    try simp -implicitDefEqProofs only [go_sem, Nat.reduceLT, Nat.reduceAdd, Nat.reduceSub, Nat.reduceMul, Nat.reduceEqDiff, Nat.reduceBEq, Nat.reduceLeDiff, Int.reduceToNat, Int.reduceLT, Int.reduceLE, Int.reduceEq, reduceCtorEq, ↓reduceIte] at g25
    try simp -implicitDefEqProofs only [go_sem, Nat.reduceLT, Nat.reduceAdd, Nat.reduceSub, Nat.reduceMul, Nat.reduceEqDiff, Nat.reduceBEq, Nat.reduceLeDiff, Int.reduceToNat, Int.reduceLT, Int.reduceLE, Int.reduceEq, reduceCtorEq, ↓reduceIte, E22_1, X22_1, k22_1b, b15, g18, g19, g20, g23, g24, g25]
    cases b26 : (eqI x16 x21 : Bool)
    · replace h := br_f b26 h
      cases h
      simp -implicitDefEqProofs only [go_sem, Nat.reduceLT, Nat.reduceAdd, Nat.reduceSub, Nat.reduceMul, Nat.reduceEqDiff, Nat.reduceBEq, Nat.reduceLeDiff, Int.reduceToNat, Int.reduceLT, Int.reduceLE, Int.reduceEq, reduceCtorEq, ↓reduceIte, E22_1, X22_1, k22_1b, b15, g18, g19, g20, g23, g24, g25, b26]
    · replace h := br_t b26 h
      cases h
      simp -implicitDefEqProofs only [go_sem, Nat.reduceLT, Nat.reduceAdd, Nat.reduceSub, Nat.reduceMul, Nat.reduceEqDiff, Nat.reduceBEq, Nat.reduceLeDiff, Int.reduceToNat, Int.reduceLT, Int.reduceLE, Int.reduceEq, reduceCtorEq, ↓reduceIte, E22_1, X22_1, k22_1b, b15, g18, g19, g20, g23, g24, g25, b26]
theorem e22_1 (a0 : (List Int)) (a1 : (List Int)) (s : Int) (o : (Unit ⊕ Unit)) (h : loopP (m22_1b a0 a1) s = some o) : evCL T 0 (.loop k22_1b) (E22_1 a0 a1 s).1 (E22_1 a0 a1 s).2 = some (X22_1 a0 a1 o) :=
  loop_walk (E := E22_1 a0 a1) (X := X22_1 a0 a1) (by intro b; rcases b with b | b <;> (simp only [X22_1]; nofun)) (b22_1 a0 a1) s o h
theorem call22 (args : List AV) (S : St) : evCall T (evFL T) 22 args S = lendC (evFL T 22) S (lendAll S [[1], [1]] args) := evCall0 fn22 rfl rfl args S
theorem callz22 (args : List AV) (S : St) : evCallFz T (evFL T) 22 args S = lendZ (evFL T 22) S [[0]] (lendAll S [[1], [1]] args) := evCallFz0 fn22 rfl rfl args S
attribute [go_sem] call22 callz22
theorem e22 (a0 : (List Int)) (a1 : (List Int)) (r : Bool) (h : m22 a0 a1 = some r) : evFL T 22 [.ts .imm 1 (a0.map encInt), .ts .imm 1 (a1.map encInt)] [] = some (.bool r, []) := by
  unfold m22 at h
  rw [evFL_at fn22 (Nat.le_of_ble_eq_true rfl) rfl (.inr rfl)]
  try simp -implicitDefEqProofs only [go_sem, Nat.reduceLT, Nat.reduceAdd, Nat.reduceSub, Nat.reduceMul, Nat.reduceEqDiff, Nat.reduceBEq, Nat.reduceLeDiff, Int.reduceToNat, Int.reduceLT, Int.reduceLE, Int.reduceEq, reduceCtorEq, ↓reduceIte, i22, c22]
  cases b1 : (eqI (↑a0.length : Int) (↑a1.length : Int) : Bool)
  · replace h := br_f b1 h
    cases h
    simp -implicitDefEqProofs only [go_sem, Nat.reduceLT, Nat.reduceAdd, Nat.reduceSub, Nat.reduceMul, Nat.reduceEqDiff, Nat.reduceBEq, Nat.reduceLeDiff, Int.reduceToNat, Int.reduceLT, Int.reduceLE, Int.reduceEq, reduceCtorEq, ↓reduceIte, i22, c22, b1]
  · replace h := br_t b1 h
    try simp -implicitDefEqProofs only [go_sem, Nat.reduceLT, Nat.reduceAdd, Nat.reduceSub, Nat.reduceMul, Nat.reduceEqDiff, Nat.reduceBEq, Nat.reduceLeDiff, Int.reduceToNat, Int.reduceLT, Int.reduceLE, Int.reduceEq, reduceCtorEq, ↓reduceIte, i22, c22, b1]
    obtain ⟨o, q27, h⟩ := bnd_some h
    rcases o with ⟨⟩ | ⟨⟩
    · replace h := selS_l h
      have w28 := e22_1 a0 a1 0 (.inl ()) q27
      simp only [E22_1, X22_1] at w28
      try simp -implicitDefEqProofs only [go_sem, Nat.reduceLT, Nat.reduceAdd, Nat.reduceSub, Nat.reduceMul, Nat.reduceEqDiff, Nat.reduceBEq, Nat.reduceLeDiff, Int.reduceToNat, Int.reduceLT, Int.reduceLE, Int.reduceEq, reduceCtorEq, ↓reduceIte] at w28
      cases h
      simp -implicitDefEqProofs only [go_sem, Nat.reduceLT, Nat.reduceAdd, Nat.reduceSub, Nat.reduceMul, Nat.reduceEqDiff, Nat.reduceBEq, Nat.reduceLeDiff, Int.reduceToNat, Int.reduceLT, Int.reduceLE, Int.reduceEq, reduceCtorEq, ↓reduceIte, i22, c22, b1, w28]
    · replace h := selS_r h
      have w28 := e22_1 a0 a1 0 (.inr ()) q27
      simp only [E22_1, X22_1] at w28
      try simp -implicitDefEqProofs only [go_sem, Nat.reduceLT, Nat.reduceAdd, Nat.reduceSub, Nat.reduceMul, Nat.reduceEqDiff, Nat.reduceBEq, Nat.reduceLeDiff, Int.reduceToNat, Int.reduceLT, Int.reduceLE, Int.reduceEq, reduceCtorEq, ↓reduceIte] at w28
      cases h
      simp -implicitDefEqProofs only [go_sem, Nat.reduceLT, Nat.reduceAdd, Nat.reduceSub, Nat.reduceMul, Nat.reduceEqDiff, Nat.reduceBEq, Nat.reduceLeDiff, Int.reduceToNat, Int.reduceLT, Int.reduceLE, Int.reduceEq, reduceCtorEq, ↓reduceIte, i22, c22, b1, w28]
-- f47 laws.eqEvent
theorem call47 (args : List AV) (S : St) : evCall T (evFL T) 47 args S = lendC (evFL T 47) S (lendAll S [[0, 0], [0, 0]] args) := evCall0 fn47 rfl rfl args S
theorem callz47 (args : List AV) (S : St) : evCallFz T (evFL T) 47 args S = lendZ (evFL T 47) S [[0]] (lendAll S [[0, 0], [0, 0]] args) := evCallFz0 fn47 rfl rfl args S
attribute [go_sem] call47 callz47
theorem e47 (a0 : Evt) (a1 : Evt) (r : Bool) (h : m47 a0 a1 = some r) : evFL T 47 [.agg [.int .i64 a0.kind, .int .i64 a0.n], .agg [.int .i64 a1.kind, .int .i64 a1.n]] [] = some (.bool r, []) := by
  unfold m47 at h
  rw [evFL_at fn47 (Nat.le_of_ble_eq_true rfl) rfl (.inr rfl)]
  try simp -implicitDefEqProofs only [go_sem, Nat.reduceLT, Nat.reduceAdd, Nat.reduceSub, Nat.reduceMul, Nat.reduceEqDiff, Nat.reduceBEq, Nat.reduceLeDiff, Int.reduceToNat, Int.reduceLT, Int.reduceLE, Int.reduceEq, reduceCtorEq, ↓reduceIte, i47, c47]
  cases b1 : (eqI a0.kind a1.kind : Bool)
  · replace h := br_f b1 h
    cases h
    simp -implicitDefEqProofs only [go_sem, Nat.reduceLT, Nat.reduceAdd, Nat.reduceSub, Nat.reduceMul, Nat.reduceEqDiff, Nat.reduceBEq, Nat.reduceLeDiff, Int.reduceToNat, Int.reduceLT, Int.reduceLE, Int.reduceEq, reduceCtorEq, ↓reduceIte, i47, c47, b1]
  · replace h := br_t b1 h
    try simp -implicitDefEqProofs only [go_sem, Nat.reduceLT, Nat.reduceAdd, Nat.reduceSub, Nat.reduceMul, Nat.reduceEqDiff, Nat.reduceBEq, Nat.reduceLeDiff, Int.reduceToNat, Int.reduceLT, Int.reduceLE, Int.reduceEq, reduceCtorEq, ↓reduceIte, i47, c47, b1]
    cases b2 : (eqI a0.n a1.n : Bool)
    · replace h := br_f b2 h
      cases h
      simp -implicitDefEqProofs only [go_sem, Nat.reduceLT, Nat.reduceAdd, Nat.reduceSub, Nat.reduceMul, Nat.reduceEqDiff, Nat.reduceBEq, Nat.reduceLeDiff, Int.reduceToNat, Int.reduceLT, Int.reduceLE, Int.reduceEq, reduceCtorEq, ↓reduceIte, i47, c47, b1, b2]
    · replace h := br_t b2 h
      cases h
      simp -implicitDefEqProofs only [go_sem, Nat.reduceLT, Nat.reduceAdd, Nat.reduceSub, Nat.reduceMul, Nat.reduceEqDiff, Nat.reduceBEq, Nat.reduceLeDiff, Int.reduceToNat, Int.reduceLT, Int.reduceLE, Int.reduceEq, reduceCtorEq, ↓reduceIte, i47, c47, b1, b2]
-- f29 laws.eqEventS
def X29_1 (a0 : (List Evt)) (a1 : (List Evt)) (o : (Unit ⊕ Unit)) : Ex × Fr × St :=
  match o with
  | .inl o => (.exit 0, frOf 27 (anyF), [])
  | .inr o => (.ret, frOf 27 (upd anyF 4 (.bool false)), [])
def E29_1 (a0 : (List Evt)) (a1 : (List Evt)) (s : Int) : Fr × St := (frOf 27 (upd (upd (upd anyF 0 (.ts .imm 2 (a0.map encEvt))) 1 (.ts .imm 2 (a1.map encEvt))) 5 (.int .i64 s)), [])
theorem b29_1 (a0 : (List Evt)) (a1 : (List Evt)) (s : Int) (o : Ctl Int (Unit ⊕ Unit)) (h : m29_1b a0 a1 s = some o) : evCL T 0 k29_1b (E29_1 a0 a1 s).1 (E29_1 a0 a1 s).2 = some (ctlX (E29_1 a0 a1) (X29_1 a0 a1) o) := by
  unfold m29_1b at h
  revert h
  generalize s = s17
  intro h
  try simp -implicitDefEqProofs only [go_sem, Nat.reduceLT, Nat.reduceAdd, Nat.reduceSub, Nat.reduceMul, Nat.reduceEqDiff, Nat.reduceBEq, Nat.reduceLeDiff, Int.reduceToNat, Int.reduceLT, Int.reduceLE, Int.reduceEq, reduceCtorEq, ↓reduceIte, E29_1, X29_1, k29_1b]
  cases b18 : (ltI s17 (↑a0.length : Int) : Bool)
  · replace h := br_f b18 h
    cases h
    simp -implicitDefEqProofs only [go_sem, Nat.reduceLT, Nat.reduceAdd, Nat.reduceSub, Nat.reduceMul, Nat.reduceEqDiff, Nat.reduceBEq, Nat.reduceLeDiff, Int.reduceToNat, Int.reduceLT, Int.reduceLE, Int.reduceEq, reduceCtorEq, ↓reduceIte, E29_1, X29_1, k29_1b, b18]
  · replace h := br_t b18 h
    obtain ⟨x19, q20, h⟩ := bnd_some h
    obtain ⟨g21, g22, g23⟩ := idx_row encEvt q20
    try simp -implicitDefEqProofs only [go_sem, Nat.reduceLT, Nat.reduceAdd, Nat.reduceSub, Nat.reduceMul, Nat.reduceEqDiff, Nat.reduceBEq, Nat.reduceLeDiff, Int.reduceToNat, Int.reduceLT, Int.reduceLE, Int.reduceEq, reduceCtorEq, ↓reduceIte] at g22
    try simp -implicitDefEqProofs only [go_sem, Nat.reduceLT, Nat.reduceAdd, Nat.reduceSub, Nat.reduceMul, Nat.reduceEqDiff, Nat.reduceBEq, Nat.reduceLeDiff, Int.reduceToNat, Int.reduceLT, Int.reduceLE, Int.reduceEq, reduceCtorEq, ↓reduceIte] at g23
    obtain ⟨x24, q25, h⟩ := bnd_some h
    obtain ⟨g26, g27, g28⟩ := idx_row encEvt q25
    try simp -implicitDefEqProofs only [go_sem, Nat.reduceLT, Nat.reduceAdd, Nat.reduceSub, Nat.reduceMul, Nat.reduceEqDiff, Nat.reduceBEq, Nat.reduceLeDiff, Int.reduceToNat, Int.reduceLT, Int.reduceLE, Int.reduceEq, reduceCtorEq, ↓reduceIte] at g27
    try simp -implicitDefEqProofs only [go_sem, Nat.reduceLT, Nat.reduceAdd, Nat.reduceSub, Nat.reduceMul, Nat.reduceEqDiff, Nat.reduceBEq, Nat.reduceLeDiff, Int.reduceToNat, Int.reduceLT, Int.reduceLE, Int.reduceEq, reduceCtorEq, ↓reduceIte] at g28
    obtain ⟨r31, q29, h⟩ := bnd_some h
    have w30 := e47 x19 x24 r31 q29
    try simp -implicitDefEqProofs only [go_sem, Nat.reduceLT, Nat.reduceAdd, Nat.reduceSub, Nat.reduceMul, Nat.reduceEqDiff, Nat.reduceBEq, Nat.reduceLeDiff, Int.reduceToNat, Int.reduceLT, Int.reduceLE, Int.reduceEq, reduceCtorEq, ↓reduceIte] at w30
    try simp -implicitDefEqProofs only [go_sem, Nat.reduceLT, Nat.reduceAdd, Nat.reduceSub, Nat.reduceMul, Nat.reduceEqDiff, Nat.reduceBEq, Nat.reduceLeDiff, Int.reduceToNat, Int.reduceLT, Int.reduceLE, Int.reduceEq, reduceCtorEq, ↓reduceIte, E29_1, X29_1, k29_1b, b18, g21, g22, g23, g26, g27, g28, w30]
    cases b32 : (r31 : Bool)
    · replace h := br_f b32 h
      cases h
      simp -implicitDefEqProofs only [go_sem, Nat.reduceLT, Nat.reduceAdd, Nat.reduceSub, Nat.reduceMul, Nat.reduceEqDiff, Nat.reduceBEq, Nat.reduceLeDiff, Int.reduceToNat, Int.reduceLT, Int.reduceLE, Int.reduceEq, reduceCtorEq, ↓reduceIte, E29_1, X29_1, k29_1b, b18, g21, g22, g23, g26, g27, g28, w30, b32]
    · replace h := br_t b32 h
      cases h
      simp -implicitDefEqProofs only [go_sem, Nat.reduceLT, Nat.reduceAdd, Nat.reduceSub, Nat.reduceMul, Nat.reduceEqDiff, Nat.reduceBEq, Nat.reduceLeDiff, Int.reduceToNat, Int.reduceLT, Int.reduceLE, Int.reduceEq, reduceCtorEq, ↓reduceIte, E29_1, X29_1, k29_1b, b18, g21, g22, g23, g26, g27, g28, w30, b32]
theorem e29_1 (a0 : (List Evt)) (a1 : (List Evt)) (s : Int) (o : (Unit ⊕ Unit)) (h : loopP (m29_1b a0 a1) s = some o) : evCL T 0 (.loop k29_1b) (E29_1 a0 a1 s).1 (E29_1 a0 a1 s).2 = some (X29_1 a0 a1 o) :=
  loop_walk (E := E29_1 a0 a1) (X := X29_1 a0 a1) (by intro b; rcases b with b | b <;> (simp only [X29_1]; nofun)) (b29_1 a0 a1) s o h
theorem call29 (args : List AV) (S : St) : evCall T (evFL T) 29 args S = lendC (evFL T 29) S (lendAll S [[2], [2]] args) := evCall0 fn29 rfl rfl args S
theorem callz29 (args : List AV) (S : St) : evCallFz T (evFL T) 29 args S = lendZ (evFL T 29) S [[0]] (lendAll S [[2], [2]] args) := evCallFz0 fn29 rfl rfl args S
attribute [go_sem] call29 callz29
theorem e29 (a0 : (List Evt)) (a1 : (List Evt)) (r : Bool) (h : m29 a0 a1 = some r) : evFL T 29 [.ts .imm 2 (a0.map encEvt), .ts .imm 2 (a1.map encEvt)] [] = some (.bool r, []) := by
  unfold m29 at h
  rw [evFL_at fn29 (Nat.le_of_ble_eq_true rfl) rfl (.inr rfl)]
  try simp -implicitDefEqProofs only [go_sem, Nat.reduceLT, Nat.reduceAdd, Nat.reduceSub, Nat.reduceMul, Nat.reduceEqDiff, Nat.reduceBEq, Nat.reduceLeDiff, Int.reduceToNat, Int.reduceLT, Int.reduceLE, Int.reduceEq, reduceCtorEq, ↓reduceIte, i29, c29]
  cases b1 : (eqI (↑a0.length : Int) (↑a1.length : Int) : Bool)
  · replace h := br_f b1 h
    cases h
    simp -implicitDefEqProofs only [go_sem, Nat.reduceLT, Nat.reduceAdd, Nat.reduceSub, Nat.reduceMul, Nat.reduceEqDiff, Nat.reduceBEq, Nat.reduceLeDiff, Int.reduceToNat, Int.reduceLT, Int.reduceLE, Int.reduceEq, reduceCtorEq, ↓reduceIte, i29, c29, b1]
  · replace h := br_t b1 h
    try simp -implicitDefEqProofs only [go_sem, Nat.reduceLT, Nat.reduceAdd, Nat.reduceSub, Nat.reduceMul, Nat.reduceEqDiff, Nat.reduceBEq, Nat.reduceLeDiff, Int.reduceToNat, Int.reduceLT, Int.reduceLE, Int.reduceEq, reduceCtorEq, ↓reduceIte, i29, c29, b1]
    obtain ⟨o, q33, h⟩ := bnd_some h
    rcases o with ⟨⟩ | ⟨⟩
    · replace h := selS_l h
      have w34 := e29_1 a0 a1 0 (.inl ()) q33
      simp only [E29_1, X29_1] at w34
      try simp -implicitDefEqProofs only [go_sem, Nat.reduceLT, Nat.reduceAdd, Nat.reduceSub, Nat.reduceMul, Nat.reduceEqDiff, Nat.reduceBEq, Nat.reduceLeDiff, Int.reduceToNat, Int.reduceLT, Int.reduceLE, Int.reduceEq, reduceCtorEq, ↓reduceIte] at w34
      cases h
      simp -implicitDefEqProofs only [go_sem, Nat.reduceLT, Nat.reduceAdd, Nat.reduceSub, Nat.reduceMul, Nat.reduceEqDiff, Nat.reduceBEq, Nat.reduceLeDiff, Int.reduceToNat, Int.reduceLT, Int.reduceLE, Int.reduceEq, reduceCtorEq, ↓reduceIte, i29, c29, b1, w34]
    · replace h := selS_r h
      have w34 := e29_1 a0 a1 0 (.inr ()) q33
      simp only [E29_1, X29_1] at w34
      try simp -implicitDefEqProofs only [go_sem, Nat.reduceLT, Nat.reduceAdd, Nat.reduceSub, Nat.reduceMul, Nat.reduceEqDiff, Nat.reduceBEq, Nat.reduceLeDiff, Int.reduceToNat, Int.reduceLT, Int.reduceLE, Int.reduceEq, reduceCtorEq, ↓reduceIte] at w34
      cases h
      simp -implicitDefEqProofs only [go_sem, Nat.reduceLT, Nat.reduceAdd, Nat.reduceSub, Nat.reduceMul, Nat.reduceEqDiff, Nat.reduceBEq, Nat.reduceLeDiff, Int.reduceToNat, Int.reduceLT, Int.reduceLE, Int.reduceEq, reduceCtorEq, ↓reduceIte, i29, c29, b1, w34]
-- f30 laws.markEventS
def X30_1 (o : (Int × List Evt)) : Ex × Fr × St :=
  (.exit 0, frOf 27 (upd anyF 1 (.int .i64 o.1)), [some ⟨.arr, 2, o.2.map encEvt⟩])
def E30_1 (s : (Int × Int × List Evt)) : Fr × St := (frOf 27 (upd (upd (upd anyF 0 (.sl 0 0 s.2.2.length)) 1 (.int .i64 s.1)) 5 (.int .i64 s.2.1)), [some ⟨.arr, 2, s.2.2.map encEvt⟩])
theorem b30_1 (s : (Int × Int × List Evt)) (o : Ctl (Int × Int × List Evt) (Int × List Evt)) (h : m30_1b s = some o) : evCL T 1 k30_1b (E30_1 s).1 (E30_1 s).2 = some (ctlX (E30_1) (X30_1) o) := by
  unfold m30_1b at h
  obtain ⟨s7, s8, s9⟩ := s
  replace h := sel3_some h
  try simp -implicitDefEqProofs only [go_sem, Nat.reduceLT, Nat.reduceAdd, Nat.reduceSub, Nat.reduceMul, Nat.reduceEqDiff, Nat.reduceBEq, Nat.reduceLeDiff, Int.reduceToNat, Int.reduceLT, Int.reduceLE, Int.reduceEq, reduceCtorEq, ↓reduceIte, E30_1, X30_1, k30_1b]
  cases b10 : (ltI s8 (↑s9.length : Int) : Bool)
  · replace h := br_f b10 h
    cases h
    simp -implicitDefEqProofs only [go_sem, Nat.reduceLT, Nat.reduceAdd, Nat.reduceSub, Nat.reduceMul, Nat.reduceEqDiff, Nat.reduceBEq, Nat.reduceLeDiff, Int.reduceToNat, Int.reduceLT, Int.reduceLE, Int.reduceEq, reduceCtorEq, ↓reduceIte, E30_1, X30_1, k30_1b, b10]
  · replace h := br_t b10 h
    obtain ⟨x11, q12, h⟩ := bnd_some h
    obtain ⟨g13, g14, g15⟩ := idx_row encEvt q12
    try simp -implicitDefEqProofs only [go_sem, Nat.reduceLT, Nat.reduceAdd, Nat.reduceSub, Nat.reduceMul, Nat.reduceEqDiff, Nat.reduceBEq, Nat.reduceLeDiff, Int.reduceToNat, Int.reduceLT, Int.reduceLE, Int.reduceEq, reduceCtorEq, ↓reduceIte] at g14
    try simp -implicitDefEqProofs only [go_sem, Nat.reduceLT, Nat.reduceAdd, Nat.reduceSub, Nat.reduceMul, Nat.reduceEqDiff, Nat.reduceBEq, Nat.reduceLeDiff, Int.reduceToNat, Int.reduceLT, Int.reduceLE, Int.reduceEq, reduceCtorEq, ↓reduceIte] at g15
    cases h
    simp -implicitDefEqProofs only [go_sem, Nat.reduceLT, Nat.reduceAdd, Nat.reduceSub, Nat.reduceMul, Nat.reduceEqDiff, Nat.reduceBEq, Nat.reduceLeDiff, Int.reduceToNat, Int.reduceLT, Int.reduceLE, Int.reduceEq, reduceCtorEq, ↓reduceIte, E30_1, X30_1, k30_1b, b10, g13, g14, g15]
theorem e30_1 (s : (Int × Int × List Evt)) (o : (Int × List Evt)) (h : loopP (m30_1b) s = some o) : evCL T 1 (.loop k30_1b) (E30_1 s).1 (E30_1 s).2 = some (X30_1 o) :=
  loop_walk (E := E30_1) (X := X30_1) (by intro b; (simp only [X30_1]; nofun)) (b30_1) s o h
theorem call30 (args : List AV) (S : St) : evCall T (evFL T) 30 args S = c3A true (evFL T 30) (rawAll S [[2], [0]] args) := evCall3_a fn30 rfl args S
attribute [go_sem] call30
theorem e30 (a0 : (List Evt)) (a1 : Int) (r : (Int × List Evt)) (h : m30 a0 a1 = some r) : evFL T 30 [.sl 0 0 a0.length, .int .i64 a1] [some ⟨.arr, 2, a0.map encEvt⟩] = some (.int .i64 r.1, [some ⟨.arr, 2, r.2.map encEvt⟩]) := by
  unfold m30 at h
  rw [evFL_at fn30 (Nat.le_of_ble_eq_true rfl) rfl (.inl rfl)]
  obtain ⟨⟨v18, v19⟩, q16, h⟩ := bnd_some h
  replace h := sel2_some h
  have w17 := e30_1 (a1, 0, a0) (v18, v19) q16
  simp only [E30_1, X30_1] at w17
  try simp -implicitDefEqProofs only [go_sem, Nat.reduceLT, Nat.reduceAdd, Nat.reduceSub, Nat.reduceMul, Nat.reduceEqDiff, Nat.reduceBEq, Nat.reduceLeDiff, Int.reduceToNat, Int.reduceLT, Int.reduceLE, Int.reduceEq, reduceCtorEq, ↓reduceIte] at w17
  cases h
  simp -implicitDefEqProofs only [go_sem, Nat.reduceLT, Nat.reduceAdd, Nat.reduceSub, Nat.reduceMul, Nat.reduceEqDiff, Nat.reduceBEq, Nat.reduceLeDiff, Int.reduceToNat, Int.reduceLT, Int.reduceLE, Int.reduceEq, reduceCtorEq, ↓reduceIte, i30, c30, w17]
-- f23 laws.markIntS
def X23_1 (o : (Int × List Int)) : Ex × Fr × St :=
  (.exit 0, frOf 19 (upd anyF 1 (.int .i64 o.1)), [some ⟨.arr, 1, o.2.map encInt⟩])
def E23_1 (s : (Int × Int × List Int)) : Fr × St := (frOf 19 (upd (upd (upd anyF 0 (.sl 0 0 s.2.2.length)) 1 (.int .i64 s.1)) 5 (.int .i64 s.2.1)), [some ⟨.arr, 1, s.2.2.map encInt⟩])
theorem b23_1 (s : (Int × Int × List Int)) (o : Ctl (Int × Int × List Int) (Int × List Int)) (h : m23_1b s = some o) : evCL T 1 k23_1b (E23_1 s).1 (E23_1 s).2 = some (ctlX (E23_1) (X23_1) o) := by
  unfold m23_1b at h
  obtain ⟨s7, s8, s9⟩ := s
  replace h := sel3_some h
  try simp -implicitDefEqProofs only [go_sem, Nat.reduceLT, Nat.reduceAdd, Nat.reduceSub, Nat.reduceMul, Nat.reduceEqDiff, Nat.reduceBEq, Nat.reduceLeDiff, Int.reduceToNat, Int.reduceLT, Int.reduceLE, Int.reduceEq, reduceCtorEq, ↓reduceIte, E23_1, X23_1, k23_1b]
  cases b10 : (ltI s8 (↑s9.length : Int) : Bool)
  · replace h := br_f b10 h
    cases h
    simp -implicitDefEqProofs only [go_sem, Nat.reduceLT, Nat.reduceAdd, Nat.reduceSub, Nat.reduceMul, Nat.reduceEqDiff, Nat.reduceBEq, Nat.reduceLeDiff, Int.reduceToNat, Int.reduceLT, Int.reduceLE, Int.reduceEq, reduceCtorEq, ↓reduceIte, E23_1, X23_1, k23_1b, b10]
  · replace h := br_t b10 h
    obtain ⟨x11, q12, h⟩ := bnd_some h
    obtain ⟨g13, g14, g15⟩ := idx_row encInt q12
    try simp -implicitDefEqProofs only [go_sem, Nat.reduceLT, Nat.reduceAdd, Nat.reduceSub, Nat.reduceMul, Nat.reduceEqDiff, Nat.reduceBEq, Nat.reduceLeDiff, Int.reduceToNat, Int.reduceLT, Int.reduceLE, Int.reduceEq, reduceCtorEq, ↓reduceIte] at g14
    try simp -implicitDefEqProofs only [go_sem, Nat.reduceLT, Nat.reduceAdd, Nat.reduceSub, Nat.reduceMul, Nat.reduceEqDiff, Nat.reduceBEq, Nat.reduceLeDiff, Int.reduceToNat, Int.reduceLT, Int.reduceLE, Int.reduceEq, reduceCtorEq, ↓reduceIte] at g15
    cases h
    simp -implicitDefEqProofs only [go_sem, Nat.reduceLT, Nat.reduceAdd, Nat.reduceSub, Nat.reduceMul, Nat.reduceEqDiff, Nat.reduceBEq, Nat.reduceLeDiff, Int.reduceToNat, Int.reduceLT, Int.reduceLE, Int.reduceEq, reduceCtorEq, ↓reduceIte, E23_1, X23_1, k23_1b, b10, g13, g14, g15]
theorem e23_1 (s : (Int × Int × List Int)) (o : (Int × List Int)) (h : loopP (m23_1b) s = some o) : evCL T 1 (.loop k23_1b) (E23_1 s).1 (E23_1 s).2 = some (X23_1 o) :=
  loop_walk (E := E23_1) (X := X23_1) (by intro b; (simp only [X23_1]; nofun)) (b23_1) s o h
theorem call23 (args : List AV) (S : St) : evCall T (evFL T) 23 args S = c3A true (evFL T 23) (rawAll S [[1], [0]] args) := evCall3_a fn23 rfl args S
attribute [go_sem] call23
theorem e23 (a0 : (List Int)) (a1 : Int) (r : (Int × List Int)) (h : m23 a0 a1 = some r) : evFL T 23 [.sl 0 0 a0.length, .int .i64 a1] [some ⟨.arr, 1, a0.map encInt⟩] = some (.int .i64 r.1, [some ⟨.arr, 1, r.2.map encInt⟩]) := by
  unfold m23 at h
  rw [evFL_at fn23 (Nat.le_of_ble_eq_true rfl) rfl (.inl rfl)]
  obtain ⟨⟨v18, v19⟩, q16, h⟩ := bnd_some h
  replace h := sel2_some h
  have w17 := e23_1 (a1, 0, a0) (v18, v19) q16
  simp only [E23_1, X23_1] at w17
  try simp -implicitDefEqProofs only [go_sem, Nat.reduceLT, Nat.reduceAdd, Nat.reduceSub, Nat.reduceMul, Nat.reduceEqDiff, Nat.reduceBEq, Nat.reduceLeDiff, Int.reduceToNat, Int.reduceLT, Int.reduceLE, Int.reduceEq, reduceCtorEq, ↓reduceIte] at w17
  cases h
  simp -implicitDefEqProofs only [go_sem, Nat.reduceLT, Nat.reduceAdd, Nat.reduceSub, Nat.reduceMul, Nat.reduceEqDiff, Nat.reduceBEq, Nat.reduceLeDiff, Int.reduceToNat, Int.reduceLT, Int.reduceLE, Int.reduceEq, reduceCtorEq, ↓reduceIte, i23, c23, w17]
-- f24 laws.heldIntS
def X24_1 (a0 : (List Int)) (o : (Int ⊕ Unit)) : Ex × Fr × St :=
  match o with
  | .inl o => (.exit 0, frOf 21 (upd anyF 1 (.int .i64 o)), [])
  | .inr o => (.ret, frOf 21 (upd anyF 4 (.int .i64 (-1))), [])
def E24_1 (a0 : (List Int)) (s : (Int × Int)) : Fr × St := (frOf 21 (upd (upd (upd anyF 0 (.ts .imm 1 (a0.map encInt))) 1 (.int .i64 s.1)) 5 (.int .i64 s.2)), [])
theorem b24_1 (a0 : (List Int)) (s : (Int × Int)) (o : Ctl (Int × Int) (Int ⊕ Unit)) (h : m24_1b a0 s = some o) : evCL T 0 k24_1b (E24_1 a0 s).1 (E24_1 a0 s).2 = some (ctlX (E24_1 a0) (X24_1 a0) o) := by
  unfold m24_1b at h
  obtain ⟨s8, s9⟩ := s
  replace h := sel2_some h
  try simp -implicitDefEqProofs only [go_sem, Nat.reduceLT, Nat.reduceAdd, Nat.reduceSub, Nat.reduceMul, Nat.reduceEqDiff, Nat.reduceBEq, Nat.reduceLeDiff, Int.reduceToNat, Int.reduceLT, Int.reduceLE, Int.reduceEq, reduceCtorEq, ↓reduceIte, E24_1, X24_1, k24_1b]
  cases b10 : (ltI s9 (↑a0.length : Int) : Bool)
  · replace h := br_f b10 h
    cases h
    simp -implicitDefEqProofs only [go_sem, Nat.reduceLT, Nat.reduceAdd, Nat.reduceSub, Nat.reduceMul, Nat.reduceEqDiff, Nat.reduceBEq, Nat.reduceLeDiff, Int.reduceToNat, Int.reduceLT, Int.reduceLE, Int.reduceEq, reduceCtorEq, ↓reduceIte, E24_1, X24_1, k24_1b, b10]
  · replace h := br_t b10 h
    obtain ⟨x11, q12, h⟩ := bnd_some h
    obtain ⟨g13, g14, g15⟩ := idx_row encInt q12
    try simp -implicitDefEqProofs only [go_sem, Nat.reduceLT, Nat.reduceAdd, Nat.reduceSub, Nat.reduceMul, Nat.reduceEqDiff, Nat.reduceBEq, Nat.reduceLeDiff, Int.reduceToNat, Int.reduceLT, Int.reduceLE, Int.reduceEq, reduceCtorEq, ↓reduceIte] at g14
    try simp -implicitDefEqProofs only [go_sem, Nat.reduceLT, Nat.reduceAdd, Nat.reduceSub, Nat.reduceMul, Nat.reduceEqDiff, Nat.reduceBEq, Nat.reduceLeDiff, Int.reduceToNat, Int.reduceLT, Int.reduceLE, Int.reduceEq, reduceCtorEq, ↓reduceIte] at g15
    try simp -implicitDefEqProofs only [go_sem, Nat.reduceLT, Nat.reduceAdd, Nat.reduceSub, Nat.reduceMul, Nat.reduceEqDiff, Nat.reduceBEq, Nat.reduceLeDiff, Int.reduceToNat, Int.reduceLT, Int.reduceLE, Int.reduceEq, reduceCtorEq, ↓reduceIte, E24_1, X24_1, k24_1b, b10, g13, g14, g15]
    cases b16 : (eqI x11 s8 : Bool)
    · replace h := br_f b16 h
      cases h
      simp -implicitDefEqProofs only [go_sem, Nat.reduceLT, Nat.reduceAdd, Nat.reduceSub, Nat.reduceMul, Nat.reduceEqDiff, Nat.reduceBEq, Nat.reduceLeDiff, Int.reduceToNat, Int.reduceLT, Int.reduceLE, Int.reduceEq, reduceCtorEq, ↓reduceIte, E24_1, X24_1, k24_1b, b10, g13, g14, g15, b16]
    · replace h := br_t b16 h
      cases h
      simp -implicitDefEqProofs only [go_sem, Nat.reduceLT, Nat.reduceAdd, Nat.reduceSub, Nat.reduceMul, Nat.reduceEqDiff, Nat.reduceBEq, Nat.reduceLeDiff, Int.reduceToNat, Int.reduceLT, Int.reduceLE, Int.reduceEq, reduceCtorEq, ↓reduceIte, E24_1, X24_1, k24_1b, b10, g13, g14, g15, b16]
theorem e24_1 (a0 : (List Int)) (s : (Int × Int)) (o : (Int ⊕ Unit)) (h : loopP (m24_1b a0) s = some o) : evCL T 0 (.loop k24_1b) (E24_1 a0 s).1 (E24_1 a0 s).2 = some (X24_1 a0 o) :=
  loop_walk (E := E24_1 a0) (X := X24_1 a0) (by intro b; rcases b with b | b <;> (simp only [X24_1]; nofun)) (b24_1 a0) s o h
theorem call24 (args : List AV) (S : St) : evCall T (evFL T) 24 args S = lendC (evFL T 24) S (lendAll S [[1], [0]] args) := evCall0 fn24 rfl rfl args S
theorem callz24 (args : List AV) (S : St) : evCallFz T (evFL T) 24 args S = lendZ (evFL T 24) S [[0]] (lendAll S [[1], [0]] args) := evCallFz0 fn24 rfl rfl args S
attribute [go_sem] call24 callz24
theorem e24 (a0 : (List Int)) (a1 : Int) (r : Int) (h : m24 a0 a1 = some r) : evFL T 24 [.ts .imm 1 (a0.map encInt), .int .i64 a1] [] = some (.int .i64 r, []) := by
  unfold m24 at h
  rw [evFL_at fn24 (Nat.le_of_ble_eq_true rfl) rfl (.inr rfl)]
  try simp -implicitDefEqProofs only [go_sem, Nat.reduceLT, Nat.reduceAdd, Nat.reduceSub, Nat.reduceMul, Nat.reduceEqDiff, Nat.reduceBEq, Nat.reduceLeDiff, Int.reduceToNat, Int.reduceLT, Int.reduceLE, Int.reduceEq, reduceCtorEq, ↓reduceIte, i24, c24]
  obtain ⟨o, q17, h⟩ := bnd_some h
  rcases o with v19 | ⟨⟩
  · replace h := selS_l h
    have w18 := e24_1 a0 (a1, 0) (.inl v19) q17
    simp only [E24_1, X24_1] at w18
    try simp -implicitDefEqProofs only [go_sem, Nat.reduceLT, Nat.reduceAdd, Nat.reduceSub, Nat.reduceMul, Nat.reduceEqDiff, Nat.reduceBEq, Nat.reduceLeDiff, Int.reduceToNat, Int.reduceLT, Int.reduceLE, Int.reduceEq, reduceCtorEq, ↓reduceIte] at w18
    cases h
    simp -implicitDefEqProofs only [go_sem, Nat.reduceLT, Nat.reduceAdd, Nat.reduceSub, Nat.reduceMul, Nat.reduceEqDiff, Nat.reduceBEq, Nat.reduceLeDiff, Int.reduceToNat, Int.reduceLT, Int.reduceLE, Int.reduceEq, reduceCtorEq, ↓reduceIte, i24, c24, w18]
  · replace h := selS_r h
    have w18 := e24_1 a0 (a1, 0) (.inr ()) q17
    simp only [E24_1, X24_1] at w18
    try simp -implicitDefEqProofs only [go_sem, Nat.reduceLT, Nat.reduceAdd, Nat.reduceSub, Nat.reduceMul, Nat.reduceEqDiff, Nat.reduceBEq, Nat.reduceLeDiff, Int.reduceToNat, Int.reduceLT, Int.reduceLE, Int.reduceEq, reduceCtorEq, ↓reduceIte] at w18
    cases h
    simp -implicitDefEqProofs only [go_sem, Nat.reduceLT, Nat.reduceAdd, Nat.reduceSub, Nat.reduceMul, Nat.reduceEqDiff, Nat.reduceBEq, Nat.reduceLeDiff, Int.reduceToNat, Int.reduceLT, Int.reduceLE, Int.reduceEq, reduceCtorEq, ↓reduceIte, i24, c24, w18]
-- f7 laws.FnExactPlayEvents
def X7_1 (a0 : Int) (a1 : (List Evt)) (r12 : Bool) (r19 : Bool) (r10 : Session) (r11 : (List Int)) (r7 : (List Evt)) (r17 : Session) (r18 : (List Int)) (o : Bool) : Ex × Fr × St :=
  (.normal, frOf 125 (upd (upd (upd (upd (upd (upd (upd (upd (upd (upd anyF 0 (.int .i64 a0)) 1 (.ts .imm 2 (a1.map encEvt))) 6 (.ptr 0 0 0)) 7 (.sl 1 0 r11.length)) 8 (.bool r12)) 9 (.sl 2 0 r7.length)) 10 (.ptr 3 0 0)) 11 (.sl 4 0 r18.length)) 12 (.bool r19)) 55 (.bool o)), [some ⟨.box, 5, [[.int .i64 r10.state, .int .i64 r10.hold, .int .i64 r10.left, .int .i64 r10.quiet, .int .i64 r10.ups]]⟩, some ⟨.arr, 1, r11.map encInt⟩, some ⟨.arr, 2, r7.map encEvt⟩, some ⟨.box, 5, [[.int .i64 r17.state, .int .i64 r17.hold, .int .i64 r17.left, .int .i64 r17.quiet, .int .i64 r17.ups]]⟩, some ⟨.arr, 1, r18.map encInt⟩])
theorem e7_1 (a0 : Int) (a1 : (List Evt)) (r12 : Bool) (r19 : Bool) (r10 : Session) (r11 : (List Int)) (r7 : (List Evt)) (r17 : Session) (r18 : (List Int)) (o : Bool) (h : m7_1 r12 r19 r10 r11 r17 r18 = some o) : evCL T 0 k7_1 (frOf 125 (upd (upd (upd (upd (upd (upd (upd (upd (upd anyF 0 (.int .i64 a0)) 1 (.ts .imm 2 (a1.map encEvt))) 6 (.ptr 0 0 0)) 7 (.sl 1 0 r11.length)) 8 (.bool r12)) 9 (.sl 2 0 r7.length)) 10 (.ptr 3 0 0)) 11 (.sl 4 0 r18.length)) 12 (.bool r19))) [some ⟨.box, 5, [[.int .i64 r10.state, .int .i64 r10.hold, .int .i64 r10.left, .int .i64 r10.quiet, .int .i64 r10.ups]]⟩, some ⟨.arr, 1, r11.map encInt⟩, some ⟨.arr, 2, r7.map encEvt⟩, some ⟨.box, 5, [[.int .i64 r17.state, .int .i64 r17.hold, .int .i64 r17.left, .int .i64 r17.quiet, .int .i64 r17.ups]]⟩, some ⟨.arr, 1, r18.map encInt⟩] = some (X7_1 a0 a1 r12 r19 r10 r11 r7 r17 r18 o) := by
  unfold m7_1 at h
  obtain ⟨r22, q20, h⟩ := bnd_some h
  have w21 := e13 r17 r10 r22 q20
  try simp -implicitDefEqProofs only [go_sem, Nat.reduceLT, Nat.reduceAdd, Nat.reduceSub, Nat.reduceMul, Nat.reduceEqDiff, Nat.reduceBEq, Nat.reduceLeDiff, Int.reduceToNat, Int.reduceLT, Int.reduceLE, Int.reduceEq, reduceCtorEq, ↓reduceIte] at w21
  try simp -implicitDefEqProofs only [go_sem, Nat.reduceLT, Nat.reduceAdd, Nat.reduceSub, Nat.reduceMul, Nat.reduceEqDiff, Nat.reduceBEq, Nat.reduceLeDiff, Int.reduceToNat, Int.reduceLT, Int.reduceLE, Int.reduceEq, reduceCtorEq, ↓reduceIte, X7_1, k7_1, w21]
  cases b23 : (r22 : Bool)
  · replace h := br_f b23 h
    cases h
    simp -implicitDefEqProofs only [go_sem, Nat.reduceLT, Nat.reduceAdd, Nat.reduceSub, Nat.reduceMul, Nat.reduceEqDiff, Nat.reduceBEq, Nat.reduceLeDiff, Int.reduceToNat, Int.reduceLT, Int.reduceLE, Int.reduceEq, reduceCtorEq, ↓reduceIte, X7_1, k7_1, w21, b23]
  · replace h := br_t b23 h
    obtain ⟨r26, q24, h⟩ := bnd_some h
    have w25 := e22 r18 r11 r26 q24
    try simp -implicitDefEqProofs only [go_sem, Nat.reduceLT, Nat.reduceAdd, Nat.reduceSub, Nat.reduceMul, Nat.reduceEqDiff, Nat.reduceBEq, Nat.reduceLeDiff, Int.reduceToNat, Int.reduceLT, Int.reduceLE, Int.reduceEq, reduceCtorEq, ↓reduceIte] at w25
    try simp -implicitDefEqProofs only [go_sem, Nat.reduceLT, Nat.reduceAdd, Nat.reduceSub, Nat.reduceMul, Nat.reduceEqDiff, Nat.reduceBEq, Nat.reduceLeDiff, Int.reduceToNat, Int.reduceLT, Int.reduceLE, Int.reduceEq, reduceCtorEq, ↓reduceIte, X7_1, k7_1, w21, b23, w25]
    cases b27 : (r26 : Bool)
    · replace h := br_f b27 h
      cases h
      simp -implicitDefEqProofs only [go_sem, Nat.reduceLT, Nat.reduceAdd, Nat.reduceSub, Nat.reduceMul, Nat.reduceEqDiff, Nat.reduceBEq, Nat.reduceLeDiff, Int.reduceToNat, Int.reduceLT, Int.reduceLE, Int.reduceEq, reduceCtorEq, ↓reduceIte, X7_1, k7_1, w21, b23, w25, b27]
    · replace h := br_t b27 h
      cases h
      simp -implicitDefEqProofs only [go_sem, Nat.reduceLT, Nat.reduceAdd, Nat.reduceSub, Nat.reduceMul, Nat.reduceEqDiff, Nat.reduceBEq, Nat.reduceLeDiff, Int.reduceToNat, Int.reduceLT, Int.reduceLE, Int.reduceEq, reduceCtorEq, ↓reduceIte, X7_1, k7_1, w21, b23, w25, b27]
def X7_2 (a0 : Int) (a1 : (List Evt)) (r12 : Bool) (r19 : Bool) (r40 : Int) (r10 : Session) (r11 : (List Int)) (r17 : Session) (r18 : (List Int)) (o : Bool) : Ex × Fr × St :=
  (.normal, frOf 125 (upd (upd (upd (upd (upd (upd (upd anyF 0 (.int .i64 a0)) 1 (.ts .imm 2 (a1.map encEvt))) 6 (.ptr 0 0 0)) 7 (.sl 1 0 r11.length)) 8 (.bool r12)) 11 (.sl 2 0 r18.length)) 82 (.bool o)), [some ⟨.box, 5, [[.int .i64 r10.state, .int .i64 r10.hold, .int .i64 r10.left, .int .i64 r10.quiet, .int .i64 r10.ups]]⟩, some ⟨.arr, 1, r11.map encInt⟩, some ⟨.arr, 1, r18.map encInt⟩])
theorem e7_2 (a0 : Int) (a1 : (List Evt)) (r12 : Bool) (r19 : Bool) (r40 : Int) (r10 : Session) (r11 : (List Int)) (r17 : Session) (r18 : (List Int)) (o : Bool) (h : m7_2 r12 r19 r40 r10 r11 r17 r18 = some o) : evCL T 0 k7_2 (frOf 125 (upd (upd (upd (upd (upd (upd (upd (upd (upd anyF 0 (.int .i64 a0)) 1 (.ts .imm 2 (a1.map encEvt))) 6 (.ptr 0 0 0)) 7 (.sl 1 0 r11.length)) 8 (.bool r12)) 10 (.ptr 2 0 0)) 11 (.sl 3 0 r18.length)) 12 (.bool r19)) 13 (.int .i64 r40))) [some ⟨.box, 5, [[.int .i64 r10.state, .int .i64 r10.hold, .int .i64 r10.left, .int .i64 r10.quiet, .int .i64 r10.ups]]⟩, some ⟨.arr, 1, r11.map encInt⟩, some ⟨.box, 5, [[.int .i64 r17.state, .int .i64 r17.hold, .int .i64 r17.left, .int .i64 r17.quiet, .int .i64 r17.ups]]⟩, some ⟨.arr, 1, r18.map encInt⟩] = some (X7_2 a0 a1 r12 r19 r40 r10 r11 r17 r18 o) := by
  unfold m7_2 at h
  try simp -implicitDefEqProofs only [go_sem, Nat.reduceLT, Nat.reduceAdd, Nat.reduceSub, Nat.reduceMul, Nat.reduceEqDiff, Nat.reduceBEq, Nat.reduceLeDiff, Int.reduceToNat, Int.reduceLT, Int.reduceLE, Int.reduceEq, reduceCtorEq, ↓reduceIte, X7_2, k7_2]
  cases b43 : (ltI r40 0 : Bool)
  · replace h := br_f b43 h
    obtain ⟨r46, q44, h⟩ := bnd_some h
    have w45 := e13 r17 r10 r46 q44
    try simp -implicitDefEqProofs only [go_sem, Nat.reduceLT, Nat.reduceAdd, Nat.reduceSub, Nat.reduceMul, Nat.reduceEqDiff, Nat.reduceBEq, Nat.reduceLeDiff, Int.reduceToNat, Int.reduceLT, Int.reduceLE, Int.reduceEq, reduceCtorEq, ↓reduceIte] at w45
    try simp -implicitDefEqProofs only [go_sem, Nat.reduceLT, Nat.reduceAdd, Nat.reduceSub, Nat.reduceMul, Nat.reduceEqDiff, Nat.reduceBEq, Nat.reduceLeDiff, Int.reduceToNat, Int.reduceLT, Int.reduceLE, Int.reduceEq, reduceCtorEq, ↓reduceIte, X7_2, k7_2, b43, w45]
    cases b47 : (r46 : Bool)
    · replace h := br_f b47 h
      cases h
      simp -implicitDefEqProofs only [go_sem, Nat.reduceLT, Nat.reduceAdd, Nat.reduceSub, Nat.reduceMul, Nat.reduceEqDiff, Nat.reduceBEq, Nat.reduceLeDiff, Int.reduceToNat, Int.reduceLT, Int.reduceLE, Int.reduceEq, reduceCtorEq, ↓reduceIte, X7_2, k7_2, b43, w45, b47]
    · replace h := br_t b47 h
      obtain ⟨r50, q48, h⟩ := bnd_some h
      have w49 := e22 r18 r11 r50 q48
      try simp -implicitDefEqProofs only [go_sem, Nat.reduceLT, Nat.reduceAdd, Nat.reduceSub, Nat.reduceMul, Nat.reduceEqDiff, Nat.reduceBEq, Nat.reduceLeDiff, Int.reduceToNat, Int.reduceLT, Int.reduceLE, Int.reduceEq, reduceCtorEq, ↓reduceIte] at w49
      try simp -implicitDefEqProofs only [go_sem, Nat.reduceLT, Nat.reduceAdd, Nat.reduceSub, Nat.reduceMul, Nat.reduceEqDiff, Nat.reduceBEq, Nat.reduceLeDiff, Int.reduceToNat, Int.reduceLT, Int.reduceLE, Int.reduceEq, reduceCtorEq, ↓reduceIte, X7_2, k7_2, b43, w45, b47, w49]
      cases b51 : (r50 : Bool)
      · replace h := br_f b51 h
        cases h
        simp -implicitDefEqProofs only [go_sem, Nat.reduceLT, Nat.reduceAdd, Nat.reduceSub, Nat.reduceMul, Nat.reduceEqDiff, Nat.reduceBEq, Nat.reduceLeDiff, Int.reduceToNat, Int.reduceLT, Int.reduceLE, Int.reduceEq, reduceCtorEq, ↓reduceIte, X7_2, k7_2, b43, w45, b47, w49, b51]
      · replace h := br_t b51 h
        cases h
        simp -implicitDefEqProofs only [go_sem, Nat.reduceLT, Nat.reduceAdd, Nat.reduceSub, Nat.reduceMul, Nat.reduceEqDiff, Nat.reduceBEq, Nat.reduceLeDiff, Int.reduceToNat, Int.reduceLT, Int.reduceLE, Int.reduceEq, reduceCtorEq, ↓reduceIte, X7_2, k7_2, b43, w45, b47, w49, b51]
  · replace h := br_t b43 h
    cases h
    simp -implicitDefEqProofs only [go_sem, Nat.reduceLT, Nat.reduceAdd, Nat.reduceSub, Nat.reduceMul, Nat.reduceEqDiff, Nat.reduceBEq, Nat.reduceLeDiff, Int.reduceToNat, Int.reduceLT, Int.reduceLE, Int.reduceEq, reduceCtorEq, ↓reduceIte, X7_2, k7_2, b43]
def X7_3 (r12 : Bool) (r58 : Int) (r19 : Bool) (r10 : Session) (r11 : (List Int)) (r59 : List Int) (r17 : Session) (r18 : (List Int)) (o : Bool) : Ex × Fr × St :=
  (.normal, frOf 125 (upd (upd (upd anyF 11 (.sl 0 0 r59.length)) 14 (.int .i64 r58)) 116 (.bool o)), [some ⟨.arr, 1, r59.map encInt⟩])
theorem e7_3 (r12 : Bool) (r58 : Int) (r19 : Bool) (r10 : Session) (r11 : (List Int)) (r59 : List Int) (r17 : Session) (r18 : (List Int)) (o : Bool) (h : m7_3 r12 r19 r10 r11 r17 r18 = some o) : evCL T 0 k7_3 (frOf 125 (upd (upd (upd (upd (upd (upd (upd (upd anyF 6 (.ptr 0 0 0)) 7 (.sl 1 0 r11.length)) 8 (.bool r12)) 11 (.sl 2 0 r59.length)) 14 (.int .i64 r58)) 16 (.ptr 3 0 0)) 17 (.sl 4 0 r18.length)) 18 (.bool r19))) [some ⟨.box, 5, [[.int .i64 r10.state, .int .i64 r10.hold, .int .i64 r10.left, .int .i64 r10.quiet, .int .i64 r10.ups]]⟩, some ⟨.arr, 1, r11.map encInt⟩, some ⟨.arr, 1, r59.map encInt⟩, some ⟨.box, 5, [[.int .i64 r17.state, .int .i64 r17.hold, .int .i64 r17.left, .int .i64 r17.quiet, .int .i64 r17.ups]]⟩, some ⟨.arr, 1, r18.map encInt⟩] = some (X7_3 r12 r58 r19 r10 r11 r59 r17 r18 o) := by
  unfold m7_3 at h
  obtain ⟨r72, q70, h⟩ := bnd_some h
  have w71 := e13 r17 r10 r72 q70
  try simp -implicitDefEqProofs only [go_sem, Nat.reduceLT, Nat.reduceAdd, Nat.reduceSub, Nat.reduceMul, Nat.reduceEqDiff, Nat.reduceBEq, Nat.reduceLeDiff, Int.reduceToNat, Int.reduceLT, Int.reduceLE, Int.reduceEq, reduceCtorEq, ↓reduceIte] at w71
  try simp -implicitDefEqProofs only [go_sem, Nat.reduceLT, Nat.reduceAdd, Nat.reduceSub, Nat.reduceMul, Nat.reduceEqDiff, Nat.reduceBEq, Nat.reduceLeDiff, Int.reduceToNat, Int.reduceLT, Int.reduceLE, Int.reduceEq, reduceCtorEq, ↓reduceIte, X7_3, k7_3, w71]
  cases b73 : (r72 : Bool)
  · replace h := br_f b73 h
    cases h
    simp -implicitDefEqProofs only [go_sem, Nat.reduceLT, Nat.reduceAdd, Nat.reduceSub, Nat.reduceMul, Nat.reduceEqDiff, Nat.reduceBEq, Nat.reduceLeDiff, Int.reduceToNat, Int.reduceLT, Int.reduceLE, Int.reduceEq, reduceCtorEq, ↓reduceIte, X7_3, k7_3, w71, b73]
  · replace h := br_t b73 h
    obtain ⟨r76, q74, h⟩ := bnd_some h
    have w75 := e22 r18 r11 r76 q74
    try simp -implicitDefEqProofs only [go_sem, Nat.reduceLT, Nat.reduceAdd, Nat.reduceSub, Nat.reduceMul, Nat.reduceEqDiff, Nat.reduceBEq, Nat.reduceLeDiff, Int.reduceToNat, Int.reduceLT, Int.reduceLE, Int.reduceEq, reduceCtorEq, ↓reduceIte] at w75
    try simp -implicitDefEqProofs only [go_sem, Nat.reduceLT, Nat.reduceAdd, Nat.reduceSub, Nat.reduceMul, Nat.reduceEqDiff, Nat.reduceBEq, Nat.reduceLeDiff, Int.reduceToNat, Int.reduceLT, Int.reduceLE, Int.reduceEq, reduceCtorEq, ↓reduceIte, X7_3, k7_3, w71, b73, w75]
    cases b77 : (r76 : Bool)
    · replace h := br_f b77 h
      cases h
      simp -implicitDefEqProofs only [go_sem, Nat.reduceLT, Nat.reduceAdd, Nat.reduceSub, Nat.reduceMul, Nat.reduceEqDiff, Nat.reduceBEq, Nat.reduceLeDiff, Int.reduceToNat, Int.reduceLT, Int.reduceLE, Int.reduceEq, reduceCtorEq, ↓reduceIte, X7_3, k7_3, w71, b73, w75, b77]
    · replace h := br_t b77 h
      cases h
      simp -implicitDefEqProofs only [go_sem, Nat.reduceLT, Nat.reduceAdd, Nat.reduceSub, Nat.reduceMul, Nat.reduceEqDiff, Nat.reduceBEq, Nat.reduceLeDiff, Int.reduceToNat, Int.reduceLT, Int.reduceLE, Int.reduceEq, reduceCtorEq, ↓reduceIte, X7_3, k7_3, w71, b73, w75, b77]
theorem call7 (args : List AV) (S : St) : evCall T (evFL T) 7 args S = lendC (evFL T 7) S (lendAll S [[0], [2]] args) := evCall0 fn7 rfl rfl args S
theorem callz7 (args : List AV) (S : St) : evCallFz T (evFL T) 7 args S = lendZ (evFL T 7) S [[0]] (lendAll S [[0], [2]] args) := evCallFz0 fn7 rfl rfl args S
attribute [go_sem] call7 callz7
theorem e7 (a0 : Int) (a1 : (List Evt)) (r : Bool) (h : m7 a0 a1 = some r) : evFL T 7 [.int .i64 a0, .ts .imm 2 (a1.map encEvt)] [] = some (.bool r, []) := by
  unfold m7 at h
  rw [evFL_at fn7 (Nat.le_of_ble_eq_true rfl) rfl (.inr rfl)]
  obtain ⟨r3, q1, h⟩ := bnd_some h
  have w2 := e25 a1 1048576 r3 q1
  try simp -implicitDefEqProofs only [go_sem, Nat.reduceLT, Nat.reduceAdd, Nat.reduceSub, Nat.reduceMul, Nat.reduceEqDiff, Nat.reduceBEq, Nat.reduceLeDiff, Int.reduceToNat, Int.reduceLT, Int.reduceLE, Int.reduceEq, reduceCtorEq, ↓reduceIte] at w2
  try simp -implicitDefEqProofs only [go_sem, Nat.reduceLT, Nat.reduceAdd, Nat.reduceSub, Nat.reduceMul, Nat.reduceEqDiff, Nat.reduceBEq, Nat.reduceLeDiff, Int.reduceToNat, Int.reduceLT, Int.reduceLE, Int.reduceEq, reduceCtorEq, ↓reduceIte, i7, c7, w2]
  cases b4 : (ltI r3 0 : Bool)
  · replace h := br_f b4 h
    obtain ⟨r7, q5, h⟩ := bnd_some h
    have w6 := e27 a1 r7 q5
    try simp -implicitDefEqProofs only [go_sem, Nat.reduceLT, Nat.reduceAdd, Nat.reduceSub, Nat.reduceMul, Nat.reduceEqDiff, Nat.reduceBEq, Nat.reduceLeDiff, Int.reduceToNat, Int.reduceLT, Int.reduceLE, Int.reduceEq, reduceCtorEq, ↓reduceIte] at w6
    obtain ⟨⟨r10, r11, r12⟩, q8, h⟩ := bnd_some h
    replace h := sel3_some h
    have w9 := e26 a0 r7 (r10, r11, r12) q8
    try simp -implicitDefEqProofs only [go_sem, Nat.reduceLT, Nat.reduceAdd, Nat.reduceSub, Nat.reduceMul, Nat.reduceEqDiff, Nat.reduceBEq, Nat.reduceLeDiff, Int.reduceToNat, Int.reduceLT, Int.reduceLE, Int.reduceEq, reduceCtorEq, ↓reduceIte] at w9
    obtain ⟨⟨r17, r18, r19⟩, q15, h⟩ := bnd_some h
    replace h := sel3_some h
    have w16 := e28 a0 r7 (r17, r18, r19) q15
    try simp -implicitDefEqProofs only [go_sem, Nat.reduceLT, Nat.reduceAdd, Nat.reduceSub, Nat.reduceMul, Nat.reduceEqDiff, Nat.reduceBEq, Nat.reduceLeDiff, Int.reduceToNat, Int.reduceLT, Int.reduceLE, Int.reduceEq, reduceCtorEq, ↓reduceIte] at w16
    obtain ⟨v30, q28, h⟩ := bnd_some h
    have w29 := e7_1 a0 a1 r12 r19 r10 r11 r7 r17 r18 v30 q28
    simp only [X7_1] at w29
    try simp -implicitDefEqProofs only [go_sem, Nat.reduceLT, Nat.reduceAdd, Nat.reduceSub, Nat.reduceMul, Nat.reduceEqDiff, Nat.reduceBEq, Nat.reduceLeDiff, Int.reduceToNat, Int.reduceLT, Int.reduceLE, Int.reduceEq, reduceCtorEq, ↓reduceIte] at w29
    try simp -implicitDefEqProofs only [go_sem, Nat.reduceLT, Nat.reduceAdd, Nat.reduceSub, Nat.reduceMul, Nat.reduceEqDiff, Nat.reduceBEq, Nat.reduceLeDiff, Int.reduceToNat, Int.reduceLT, Int.reduceLE, Int.reduceEq, reduceCtorEq, ↓reduceIte, i7, c7, w2, b4, w6, w9, w16, w29]
    cases b31 : (v30 : Bool)
    · replace h := br_f b31 h
      obtain ⟨r36, q34, h⟩ := bnd_some h
      have w35 := e29 r7 r7 r36 q34
      try simp -implicitDefEqProofs only [go_sem, Nat.reduceLT, Nat.reduceAdd, Nat.reduceSub, Nat.reduceMul, Nat.reduceEqDiff, Nat.reduceBEq, Nat.reduceLeDiff, Int.reduceToNat, Int.reduceLT, Int.reduceLE, Int.reduceEq, reduceCtorEq, ↓reduceIte] at w35
      try simp -implicitDefEqProofs only [go_sem, Nat.reduceLT, Nat.reduceAdd, Nat.reduceSub, Nat.reduceMul, Nat.reduceEqDiff, Nat.reduceBEq, Nat.reduceLeDiff, Int.reduceToNat, Int.reduceLT, Int.reduceLE, Int.reduceEq, reduceCtorEq, ↓reduceIte, i7, c7, w2, b4, w6, w9, w16, w29, b31, w35]
      cases b37 : (r36 : Bool)
      · replace h := br_f b37 h
        cases h
        simp -implicitDefEqProofs only [go_sem, Nat.reduceLT, Nat.reduceAdd, Nat.reduceSub, Nat.reduceMul, Nat.reduceEqDiff, Nat.reduceBEq, Nat.reduceLeDiff, Int.reduceToNat, Int.reduceLT, Int.reduceLE, Int.reduceEq, reduceCtorEq, ↓reduceIte, i7, c7, w2, b4, w6, w9, w16, w29, b31, w35, b37]
      · replace h := br_t b37 h
        obtain ⟨⟨r40, r41⟩, q38, h⟩ := bnd_some h
        replace h := sel2_some h
        have w39 := e30 r7 1 (r40, r41) q38
        try simp -implicitDefEqProofs only [go_sem, Nat.reduceLT, Nat.reduceAdd, Nat.reduceSub, Nat.reduceMul, Nat.reduceEqDiff, Nat.reduceBEq, Nat.reduceLeDiff, Int.reduceToNat, Int.reduceLT, Int.reduceLE, Int.reduceEq, reduceCtorEq, ↓reduceIte] at w39
        obtain ⟨g42, h⟩ := ck_some h
        try simp -implicitDefEqProofs only [go_sem, Nat.reduceLT, Nat.reduceAdd, Nat.reduceSub, Nat.reduceMul, Nat.reduceEqDiff, Nat.reduceBEq, Nat.reduceLeDiff, Int.reduceToNat, Int.reduceLT, Int.reduceLE, Int.reduceEq, reduceCtorEq, ↓reduceIte] at g42
        obtain ⟨v54, q52, h⟩ := bnd_some h
        have w53 := e7_2 a0 a1 r12 r19 r40 r10 r11 r17 r18 v54 q52
        simp only [X7_2] at w53
        try simp -implicitDefEqProofs only [go_sem, Nat.reduceLT, Nat.reduceAdd, Nat.reduceSub, Nat.reduceMul, Nat.reduceEqDiff, Nat.reduceBEq, Nat.reduceLeDiff, Int.reduceToNat, Int.reduceLT, Int.reduceLE, Int.reduceEq, reduceCtorEq, ↓reduceIte, g42] at w53
        try simp -implicitDefEqProofs only [go_sem, Nat.reduceLT, Nat.reduceAdd, Nat.reduceSub, Nat.reduceMul, Nat.reduceEqDiff, Nat.reduceBEq, Nat.reduceLeDiff, Int.reduceToNat, Int.reduceLT, Int.reduceLE, Int.reduceEq, reduceCtorEq, ↓reduceIte, i7, c7, w2, b4, w6, w9, w16, w29, b31, w35, b37, w39, g42, take_of_len_map g42, w53]
        cases b55 : (v54 : Bool)
        · replace h := br_f b55 h
          obtain ⟨⟨r58, r59⟩, q56, h⟩ := bnd_some h
          replace h := sel2_some h
          have w57 := e23 r18 1 (r58, r59) q56
          try simp -implicitDefEqProofs only [go_sem, Nat.reduceLT, Nat.reduceAdd, Nat.reduceSub, Nat.reduceMul, Nat.reduceEqDiff, Nat.reduceBEq, Nat.reduceLeDiff, Int.reduceToNat, Int.reduceLT, Int.reduceLE, Int.reduceEq, reduceCtorEq, ↓reduceIte, g42] at w57
          obtain ⟨g60, h⟩ := ck_some h
          try simp -implicitDefEqProofs only [go_sem, Nat.reduceLT, Nat.reduceAdd, Nat.reduceSub, Nat.reduceMul, Nat.reduceEqDiff, Nat.reduceBEq, Nat.reduceLeDiff, Int.reduceToNat, Int.reduceLT, Int.reduceLE, Int.reduceEq, reduceCtorEq, ↓reduceIte] at g60
          obtain ⟨r63, q61, h⟩ := bnd_some h
          have w62 := e24 r59 1 r63 q61
          try simp -implicitDefEqProofs only [go_sem, Nat.reduceLT, Nat.reduceAdd, Nat.reduceSub, Nat.reduceMul, Nat.reduceEqDiff, Nat.reduceBEq, Nat.reduceLeDiff, Int.reduceToNat, Int.reduceLT, Int.reduceLE, Int.reduceEq, reduceCtorEq, ↓reduceIte, g42, g60] at w62
          try simp -implicitDefEqProofs only [go_sem, Nat.reduceLT, Nat.reduceAdd, Nat.reduceSub, Nat.reduceMul, Nat.reduceEqDiff, Nat.reduceBEq, Nat.reduceLeDiff, Int.reduceToNat, Int.reduceLT, Int.reduceLE, Int.reduceEq, reduceCtorEq, ↓reduceIte, i7, c7, w2, b4, w6, w9, w16, w29, b31, w35, b37, w39, g42, take_of_len_map g42, w53, b55, w57, g60, take_of_len_map g60, w62]
          cases b64 : (ltI r63 0 : Bool)
          · replace h := br_f b64 h
            try simp -implicitDefEqProofs only [go_sem, Nat.reduceLT, Nat.reduceAdd, Nat.reduceSub, Nat.reduceMul, Nat.reduceEqDiff, Nat.reduceBEq, Nat.reduceLeDiff, Int.reduceToNat, Int.reduceLT, Int.reduceLE, Int.reduceEq, reduceCtorEq, ↓reduceIte, i7, c7, w2, b4, w6, w9, w16, w29, b31, w35, b37, w39, g42, take_of_len_map g42, w53, b55, w57, g60, take_of_len_map g60, w62, b64]
            cases b65 : (eqI r63 r58 : Bool)
            · replace h := br_f b65 h
              cases h
              simp -implicitDefEqProofs only [go_sem, Nat.reduceLT, Nat.reduceAdd, Nat.reduceSub, Nat.reduceMul, Nat.reduceEqDiff, Nat.reduceBEq, Nat.reduceLeDiff, Int.reduceToNat, Int.reduceLT, Int.reduceLE, Int.reduceEq, reduceCtorEq, ↓reduceIte, i7, c7, w2, b4, w6, w9, w16, w29, b31, w35, b37, w39, g42, take_of_len_map g42, w53, b55, w57, g60, take_of_len_map g60, w62, b64, b65]
            · replace h := br_t b65 h
              obtain ⟨v80, q78, h⟩ := bnd_some h
              have w79 := e7_3 r12 r58 r19 r10 r11 r59 r17 r18 v80 q78
              simp only [X7_3] at w79
              try simp -implicitDefEqProofs only [go_sem, Nat.reduceLT, Nat.reduceAdd, Nat.reduceSub, Nat.reduceMul, Nat.reduceEqDiff, Nat.reduceBEq, Nat.reduceLeDiff, Int.reduceToNat, Int.reduceLT, Int.reduceLE, Int.reduceEq, reduceCtorEq, ↓reduceIte, g42, g60] at w79
              try simp -implicitDefEqProofs only [go_sem, Nat.reduceLT, Nat.reduceAdd, Nat.reduceSub, Nat.reduceMul, Nat.reduceEqDiff, Nat.reduceBEq, Nat.reduceLeDiff, Int.reduceToNat, Int.reduceLT, Int.reduceLE, Int.reduceEq, reduceCtorEq, ↓reduceIte, i7, c7, w2, b4, w6, w9, w16, w29, b31, w35, b37, w39, g42, take_of_len_map g42, w53, b55, w57, g60, take_of_len_map g60, w62, b64, b65, w79]
              cases b81 : (v80 : Bool)
              · replace h := br_f b81 h
                cases h
                simp -implicitDefEqProofs only [go_sem, Nat.reduceLT, Nat.reduceAdd, Nat.reduceSub, Nat.reduceMul, Nat.reduceEqDiff, Nat.reduceBEq, Nat.reduceLeDiff, Int.reduceToNat, Int.reduceLT, Int.reduceLE, Int.reduceEq, reduceCtorEq, ↓reduceIte, i7, c7, w2, b4, w6, w9, w16, w29, b31, w35, b37, w39, g42, take_of_len_map g42, w53, b55, w57, g60, take_of_len_map g60, w62, b64, b65, w79, b81]
              · replace h := br_t b81 h
                cases h
                simp -implicitDefEqProofs only [go_sem, Nat.reduceLT, Nat.reduceAdd, Nat.reduceSub, Nat.reduceMul, Nat.reduceEqDiff, Nat.reduceBEq, Nat.reduceLeDiff, Int.reduceToNat, Int.reduceLT, Int.reduceLE, Int.reduceEq, reduceCtorEq, ↓reduceIte, i7, c7, w2, b4, w6, w9, w16, w29, b31, w35, b37, w39, g42, take_of_len_map g42, w53, b55, w57, g60, take_of_len_map g60, w62, b64, b65, w79, b81]
          · replace h := br_t b64 h
            cases h
            simp -implicitDefEqProofs only [go_sem, Nat.reduceLT, Nat.reduceAdd, Nat.reduceSub, Nat.reduceMul, Nat.reduceEqDiff, Nat.reduceBEq, Nat.reduceLeDiff, Int.reduceToNat, Int.reduceLT, Int.reduceLE, Int.reduceEq, reduceCtorEq, ↓reduceIte, i7, c7, w2, b4, w6, w9, w16, w29, b31, w35, b37, w39, g42, take_of_len_map g42, w53, b55, w57, g60, take_of_len_map g60, w62, b64]
        · replace h := br_t b55 h
          cases h
          simp -implicitDefEqProofs only [go_sem, Nat.reduceLT, Nat.reduceAdd, Nat.reduceSub, Nat.reduceMul, Nat.reduceEqDiff, Nat.reduceBEq, Nat.reduceLeDiff, Int.reduceToNat, Int.reduceLT, Int.reduceLE, Int.reduceEq, reduceCtorEq, ↓reduceIte, i7, c7, w2, b4, w6, w9, w16, w29, b31, w35, b37, w39, g42, take_of_len_map g42, w53, b55]
    · replace h := br_t b31 h
      cases h
      simp -implicitDefEqProofs only [go_sem, Nat.reduceLT, Nat.reduceAdd, Nat.reduceSub, Nat.reduceMul, Nat.reduceEqDiff, Nat.reduceBEq, Nat.reduceLeDiff, Int.reduceToNat, Int.reduceLT, Int.reduceLE, Int.reduceEq, reduceCtorEq, ↓reduceIte, i7, c7, w2, b4, w6, w9, w16, w29, b31]
  · replace h := br_t b4 h
    cases h
    simp -implicitDefEqProofs only [go_sem, Nat.reduceLT, Nat.reduceAdd, Nat.reduceSub, Nat.reduceMul, Nat.reduceEqDiff, Nat.reduceBEq, Nat.reduceLeDiff, Int.reduceToNat, Int.reduceLT, Int.reduceLE, Int.reduceEq, reduceCtorEq, ↓reduceIte, i7, c7, w2, b4]
end Go.Pi.Ytcihklkihglmjaa.PlayEvents
