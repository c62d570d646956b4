/- What functions of the program answer, and that the law answers true at every input; no condition -/
import Derived.Test.YtichbkallidkcaaNoRingTabNoRing
import Derived.Test.YtichbkallidkcaaNoRingModNoRing
set_option linter.all false
/- Functions of the program: that the code answers as the plain functions do. -/
namespace Go.Pi.Ytichbkallidkcaa.NoRing
open Go Go.Proofs Go.Pi
set_option maxRecDepth 100000
set_option linter.all false
noncomputable def encInt (x : Int) : List AV := [.int .i64 x]
attribute [go_sem] encInt
theorem sq_encInt (q : Ql) (x : Int) : setQL q (encInt x) = encInt x := by simp [encInt]
theorem sqm_encInt (q : Ql) (xs : List Int) : setQLL q (xs.map encInt) = xs.map encInt := by rw [setQLL_map]; exact List.map_congr_left (fun x _ => sq_encInt q x)
theorem ow_encInt (x : Int) : ownOnlyL (encInt x) = true := by simp [encInt, ownOnlyL, ownOnly, ownLL_map]
theorem owm_encInt (xs : List Int) : ownOnlyLL (xs.map encInt) = true := ownLL_map _ ow_encInt xs
theorem fi_encInt (x : Int) : fine.fineL (encInt x) = true := by simp [encInt, fine.fineL, fine, fineLL_map]
theorem fim_encInt (xs : List Int) : fine.fineLL (xs.map encInt) = true := fineLL_map _ fi_encInt xs
theorem nu_encInt (x : Int) : nude.nudeL (encInt x) = true := by simp [encInt, nude.nudeL, nude, nudeLL_map]
theorem num_encInt (xs : List Int) : nude.nudeLL (xs.map encInt) = true := nudeLL_map _ nu_encInt xs
theorem st_encInt (q : Ql) (xs : List Int) : (xs.map encInt).map (fun x => x.map (setTop q)) = xs.map encInt := by rw [List.map_map]; rfl
attribute [go_sem] st_encInt
attribute [simp] sqm_encInt ow_encInt owm_encInt fi_encInt fim_encInt nu_encInt num_encInt
attribute [go_sem] sqm_encInt owm_encInt fim_encInt num_encInt
noncomputable def encRel (x : Rel) : List AV := [.int .i64 x.a, .int .i64 x.b, .int .i64 x.kind]
attribute [go_sem] encRel
theorem sq_encRel (q : Ql) (x : Rel) : setQL q (encRel x) = encRel x := by simp [encRel]
theorem sqm_encRel (q : Ql) (xs : List Rel) : setQLL q (xs.map encRel) = xs.map encRel := by rw [setQLL_map]; exact List.map_congr_left (fun x _ => sq_encRel q x)
theorem ow_encRel (x : Rel) : ownOnlyL (encRel x) = true := by simp [encRel, ownOnlyL, ownOnly, ownLL_map]
theorem owm_encRel (xs : List Rel) : ownOnlyLL (xs.map encRel) = true := ownLL_map _ ow_encRel xs
theorem fi_encRel (x : Rel) : fine.fineL (encRel x) = true := by simp [encRel, fine.fineL, fine, fineLL_map]
theorem fim_encRel (xs : List Rel) : fine.fineLL (xs.map encRel) = true := fineLL_map _ fi_encRel xs
theorem nu_encRel (x : Rel) : nude.nudeL (encRel x) = true := by simp [encRel, nude.nudeL, nude, nudeLL_map]
theorem num_encRel (xs : List Rel) : nude.nudeLL (xs.map encRel) = true := nudeLL_map _ nu_encRel xs
theorem st_encRel (q : Ql) (xs : List Rel) : (xs.map encRel).map (fun x => x.map (setTop q)) = xs.map encRel := by rw [List.map_map]; rfl
attribute [go_sem] st_encRel
attribute [simp] sqm_encRel ow_encRel owm_encRel fi_encRel fim_encRel nu_encRel num_encRel
attribute [go_sem] sqm_encRel owm_encRel fim_encRel num_encRel
noncomputable def encLRel (q : Ql) (x : (List Rel)) : List AV := [.ts q 3 (x.map encRel)]
attribute [go_sem] encLRel
theorem sq_encLRel (q q1 : Ql) (x : (List Rel)) : setQL q (encLRel q1 x) = encLRel q x := by simp [encLRel, sq_encRel]
theorem sqm_encLRel (q q1 : Ql) (xs : List (List Rel)) : setQLL q (xs.map (encLRel q1)) = xs.map (encLRel q) := by rw [setQLL_map]; exact List.map_congr_left (fun x _ => sq_encLRel q q1 x)
theorem ow_encLRel (x : (List Rel)) : ownOnlyL (encLRel .own x) = true := by simp [encLRel, ownOnlyL, ownOnly, ownLL_map]
theorem owm_encLRel (xs : List (List Rel)) : ownOnlyLL (xs.map (encLRel .own)) = true := ownLL_map _ ow_encLRel xs
theorem fi_encLRel (x : (List Rel)) : fine.fineL (encLRel .own x) = true := by simp [encLRel, fine.fineL, fine, fineLL_map]
theorem fim_encLRel (xs : List (List Rel)) : fine.fineLL (xs.map (encLRel .own)) = true := fineLL_map _ fi_encLRel xs
theorem nu_encLRel (x : (List Rel)) : nude.nudeL (encLRel .own x) = true := by simp [encLRel, nude.nudeL, nude, nudeLL_map]
theorem num_encLRel (xs : List (List Rel)) : nude.nudeLL (xs.map (encLRel .own)) = true := nudeLL_map _ nu_encLRel xs
theorem st_encLRel (q q1 : Ql) (xs : List (List Rel)) : (xs.map (encLRel q1)).map (fun x => x.map (setTop q)) = xs.map (encLRel q) := by rw [List.map_map]; rfl
attribute [go_sem] st_encLRel
attribute [simp] sqm_encLRel ow_encLRel owm_encLRel fi_encLRel fim_encLRel nu_encLRel num_encLRel
attribute [go_sem] sqm_encLRel owm_encLRel fim_encLRel num_encLRel
noncomputable def encBool (x : Bool) : List AV := [.bool x]
attribute [go_sem] encBool
theorem sq_encBool (q : Ql) (x : Bool) : setQL q (encBool x) = encBool x := by simp [encBool]
theorem sqm_encBool (q : Ql) (xs : List Bool) : setQLL q (xs.map encBool) = xs.map encBool := by rw [setQLL_map]; exact List.map_congr_left (fun x _ => sq_encBool q x)
theorem ow_encBool (x : Bool) : ownOnlyL (encBool x) = true := by simp [encBool, ownOnlyL, ownOnly, ownLL_map]
theorem owm_encBool (xs : List Bool) : ownOnlyLL (xs.map encBool) = true := ownLL_map _ ow_encBool xs
theorem fi_encBool (x : Bool) : fine.fineL (encBool x) = true := by simp [encBool, fine.fineL, fine, fineLL_map]
theorem fim_encBool (xs : List Bool) : fine.fineLL (xs.map encBool) = true := fineLL_map _ fi_encBool xs
theorem nu_encBool (x : Bool) : nude.nudeL (encBool x) = true := by simp [encBool, nude.nudeL, nude, nudeLL_map]
theorem num_encBool (xs : List Bool) : nude.nudeLL (xs.map encBool) = true := nudeLL_map _ nu_encBool xs
theorem st_encBool (q : Ql) (xs : List Bool) : (xs.map encBool).map (fun x => x.map (setTop q)) = xs.map encBool := by rw [List.map_map]; rfl
attribute [go_sem] st_encBool
attribute [simp] sqm_encBool ow_encBool owm_encBool fi_encBool fim_encBool nu_encBool num_encBool
attribute [go_sem] sqm_encBool owm_encBool fim_encBool num_encBool
noncomputable def encLInt (q : Ql) (x : (List Int)) : List AV := [.ts q 1 (x.map encInt)]
attribute [go_sem] encLInt
theorem sq_encLInt (q q1 : Ql) (x : (List Int)) : setQL q (encLInt q1 x) = encLInt q x := by simp [encLInt, sq_encInt]
theorem sqm_encLInt (q q1 : Ql) (xs : List (List Int)) : setQLL q (xs.map (encLInt q1)) = xs.map (encLInt q) := by rw [setQLL_map]; exact List.map_congr_left (fun x _ => sq_encLInt q q1 x)
theorem ow_encLInt (x : (List Int)) : ownOnlyL (encLInt .own x) = true := by simp [encLInt, ownOnlyL, ownOnly, ownLL_map]
theorem owm_encLInt (xs : List (List Int)) : ownOnlyLL (xs.map (encLInt .own)) = true := ownLL_map _ ow_encLInt xs
theorem fi_encLInt (x : (List Int)) : fine.fineL (encLInt .own x) = true := by simp [encLInt, fine.fineL, fine, fineLL_map]
theorem fim_encLInt (xs : List (List Int)) : fine.fineLL (xs.map (encLInt .own)) = true := fineLL_map _ fi_encLInt xs
theorem nu_encLInt (x : (List Int)) : nude.nudeL (encLInt .own x) = true := by simp [encLInt, nude.nudeL, nude, nudeLL_map]
theorem num_encLInt (xs : List (List Int)) : nude.nudeLL (xs.map (encLInt .own)) = true := nudeLL_map _ nu_encLInt xs
theorem st_encLInt (q q1 : Ql) (xs : List (List Int)) : (xs.map (encLInt q1)).map (fun x => x.map (setTop q)) = xs.map (encLInt q) := by rw [List.map_map]; rfl
attribute [go_sem] st_encLInt
attribute [simp] sqm_encLInt ow_encLInt owm_encLInt fi_encLInt fim_encLInt nu_encLInt num_encLInt
attribute [go_sem] sqm_encLInt owm_encLInt fim_encLInt num_encLInt
-- f11 laws.szRelS
theorem call11 (args : List AV) (S : St) : evCall T (evFL T) 11 args S = lendC (evFL T 11) S (lendAll S [[3], [0]] args) := evCall0 fn11 rfl rfl args S
theorem callz11 (args : List AV) (S : St) : evCallFz T (evFL T) 11 args S = lendZ (evFL T 11) S [[0]] (lendAll S [[3], [0]] args) := evCallFz0 fn11 rfl rfl args S
attribute [go_sem] call11 callz11
theorem e11 (a0 : (List Rel)) (a1 : Int) (r : Int) (h : m11 a0 a1 = some r) : evFL T 11 [.ts .imm 3 (a0.map encRel), .int .i64 a1] [] = some (.int .i64 r, []) := by
  unfold m11 at h
  rw [evFL_at fn11 (Nat.le_of_ble_eq_true rfl) rfl (.inr rfl)]
  try simp -implicitDefEqProofs only [go_sem, Nat.reduceLT, Nat.reduceAdd, Nat.reduceSub, Nat.reduceMul, Nat.reduceEqDiff, Nat.reduceBEq, Nat.reduceLeDiff, Int.reduceToNat, Int.reduceLT, Int.reduceLE, Int.reduceEq, reduceCtorEq, ↓reduceIte, i11, c11]
  cases b1 : (ltI (wsub .i64 a1 (↑a0.length : Int)) 0 : Bool)
  · replace h := br_f b1 h
    cases h
    simp -implicitDefEqProofs only [go_sem, Nat.reduceLT, Nat.reduceAdd, Nat.reduceSub, Nat.reduceMul, Nat.reduceEqDiff, Nat.reduceBEq, Nat.reduceLeDiff, Int.reduceToNat, Int.reduceLT, Int.reduceLE, Int.reduceEq, reduceCtorEq, ↓reduceIte, i11, c11, b1]
  · replace h := br_t b1 h
    cases h
    simp -implicitDefEqProofs only [go_sem, Nat.reduceLT, Nat.reduceAdd, Nat.reduceSub, Nat.reduceMul, Nat.reduceEqDiff, Nat.reduceBEq, Nat.reduceLeDiff, Int.reduceToNat, Int.reduceLT, Int.reduceLE, Int.reduceEq, reduceCtorEq, ↓reduceIte, i11, c11, b1]
-- f40 laws.toRel
theorem call40 (args : List AV) (S : St) : evCall T (evFL T) 40 args S = lendC (evFL T 40) S (lendAll S [[0, 0, 0]] args) := evCall0 fn40 rfl rfl args S
theorem callz40 (args : List AV) (S : St) : evCallFz T (evFL T) 40 args S = lendZ (evFL T 40) S [[0, 0, 0]] (lendAll S [[0, 0, 0]] args) := evCallFz0 fn40 rfl rfl args S
attribute [go_sem] call40 callz40
theorem e40 (a0 : Rel) (r : Rel) (h : m40 a0 = some r) : evFL T 40 [.agg [.int .i64 a0.a, .int .i64 a0.b, .int .i64 a0.kind]] [] = some (.agg [.int .i64 r.a, .int .i64 r.b, .int .i64 r.kind], []) := by
  unfold m40 at h
  rw [evFL_at fn40 (Nat.le_of_ble_eq_true rfl) rfl (.inr rfl)]
  cases h
  simp -implicitDefEqProofs only [go_sem, Nat.reduceLT, Nat.reduceAdd, Nat.reduceSub, Nat.reduceMul, Nat.reduceEqDiff, Nat.reduceBEq, Nat.reduceLeDiff, Int.reduceToNat, Int.reduceLT, Int.reduceLE, Int.reduceEq, reduceCtorEq, ↓reduceIte, i40, c40]
-- f13 laws.toRelS
theorem call13 (args : List AV) (S : St) : evCall T (evFL T) 13 args S = lendC (evFL T 13) S (lendAll S [[3]] args) := evCall0 fn13 rfl rfl args S
theorem callz13 (args : List AV) (S : St) : evCallFz T (evFL T) 13 args S = lendZ (evFL T 13) S [[3]] (lendAll S [[3]] args) := evCallFz0 fn13 rfl rfl args S
attribute [go_sem] call13 callz13
noncomputable def X13_1 (a0 : (List Rel)) (o : (List Rel)) : Ex × Fr × St :=
  (.exit 0, frOf 23 (upd anyF 3 (.sl 0 0 o.length)), [some ⟨.arr, 3, o.map encRel⟩])
noncomputable def E13_1 (a0 : (List Rel)) (s : (Int × List Rel)) : Fr × St := (frOf 23 (upd (upd (upd anyF 0 (.ts .imm 3 (a0.map encRel))) 3 (.sl 0 0 s.2.length)) 4 (.int .i64 s.1)), [some ⟨.arr, 3, s.2.map encRel⟩])
theorem b13_1 (a0 : (List Rel)) (s : (Int × List Rel)) (o : Ctl (Int × List Rel) (List Rel)) (h : m13_1b a0 s = some o) : evCL T 0 k13_1b (E13_1 a0 s).1 (E13_1 a0 s).2 = some (ctlX (E13_1 a0) (X13_1 a0) o) := by
  unfold m13_1b at h
  obtain ⟨s17, s18⟩ := s
  replace h := sel2_some h
  try simp -implicitDefEqProofs only [go_sem, Nat.reduceLT, Nat.reduceAdd, Nat.reduceSub, Nat.reduceMul, Nat.reduceEqDiff, Nat.reduceBEq, Nat.reduceLeDiff, Int.reduceToNat, Int.reduceLT, Int.reduceLE, Int.reduceEq, reduceCtorEq, ↓reduceIte, E13_1, X13_1, k13_1b]
  cases b19 : (ltI s17 (↑a0.length : Int) : Bool)
  · replace h := br_f b19 h
    cases h
    simp -implicitDefEqProofs only [go_sem, Nat.reduceLT, Nat.reduceAdd, Nat.reduceSub, Nat.reduceMul, Nat.reduceEqDiff, Nat.reduceBEq, Nat.reduceLeDiff, Int.reduceToNat, Int.reduceLT, Int.reduceLE, Int.reduceEq, reduceCtorEq, ↓reduceIte, E13_1, X13_1, k13_1b, b19]
  · replace h := br_t b19 h
    obtain ⟨x20, q21, h⟩ := bnd_some h
    obtain ⟨g22, g23, g24⟩ := idx_row encRel q21
    try simp -implicitDefEqProofs only [go_sem, Nat.reduceLT, Nat.reduceAdd, Nat.reduceSub, Nat.reduceMul, Nat.reduceEqDiff, Nat.reduceBEq, Nat.reduceLeDiff, Int.reduceToNat, Int.reduceLT, Int.reduceLE, Int.reduceEq, reduceCtorEq, ↓reduceIte] at g23
    try simp -implicitDefEqProofs only [go_sem, Nat.reduceLT, Nat.reduceAdd, Nat.reduceSub, Nat.reduceMul, Nat.reduceEqDiff, Nat.reduceBEq, Nat.reduceLeDiff, Int.reduceToNat, Int.reduceLT, Int.reduceLE, Int.reduceEq, reduceCtorEq, ↓reduceIte] at g24
    obtain ⟨r27, q25, h⟩ := bnd_some h
    have w26 := e40 x20 r27 q25
    try simp -implicitDefEqProofs only [go_sem, Nat.reduceLT, Nat.reduceAdd, Nat.reduceSub, Nat.reduceMul, Nat.reduceEqDiff, Nat.reduceBEq, Nat.reduceLeDiff, Int.reduceToNat, Int.reduceLT, Int.reduceLE, Int.reduceEq, reduceCtorEq, ↓reduceIte] at w26
    obtain ⟨x28, q29, h⟩ := bnd_some h
    obtain ⟨g30, g31, g32⟩ := idx_row encRel q29
    try simp -implicitDefEqProofs only [go_sem, Nat.reduceLT, Nat.reduceAdd, Nat.reduceSub, Nat.reduceMul, Nat.reduceEqDiff, Nat.reduceBEq, Nat.reduceLeDiff, Int.reduceToNat, Int.reduceLT, Int.reduceLE, Int.reduceEq, reduceCtorEq, ↓reduceIte] at g31
    try simp -implicitDefEqProofs only [go_sem, Nat.reduceLT, Nat.reduceAdd, Nat.reduceSub, Nat.reduceMul, Nat.reduceEqDiff, Nat.reduceBEq, Nat.reduceLeDiff, Int.reduceToNat, Int.reduceLT, Int.reduceLE, Int.reduceEq, reduceCtorEq, ↓reduceIte] at g32
    cases h
    simp -implicitDefEqProofs only [go_sem, Nat.reduceLT, Nat.reduceAdd, Nat.reduceSub, Nat.reduceMul, Nat.reduceEqDiff, Nat.reduceBEq, Nat.reduceLeDiff, Int.reduceToNat, Int.reduceLT, Int.reduceLE, Int.reduceEq, reduceCtorEq, ↓reduceIte, E13_1, X13_1, k13_1b, b19, g22, g23, g24, w26, g30, g31, g32]
theorem e13_1 (a0 : (List Rel)) (s : (Int × List Rel)) (o : (List Rel)) (h : loopP (m13_1b a0) s = some o) : evCL T 0 (.loop k13_1b) (E13_1 a0 s).1 (E13_1 a0 s).2 = some (X13_1 a0 o) :=
  loop_walk (E := E13_1 a0) (X := X13_1 a0) (by intro b; (simp only [X13_1]; nofun)) (b13_1 a0) s o h
theorem e13 (a0 : (List Rel)) (r : (List Rel)) (h : m13 a0 = some r) : evFL T 13 [.ts .imm 3 (a0.map encRel)] [] = some (.sl 0 0 r.length, [some ⟨.arr, 3, r.map encRel⟩]) := by
  unfold m13 at h
  rw [evFL_at fn13 (Nat.le_of_ble_eq_true rfl) rfl (.inr rfl)]
  obtain ⟨g1, h⟩ := ck_some h
  try simp -implicitDefEqProofs only [go_sem, Nat.reduceLT, Nat.reduceAdd, Nat.reduceSub, Nat.reduceMul, Nat.reduceEqDiff, Nat.reduceBEq, Nat.reduceLeDiff, Int.reduceToNat, Int.reduceLT, Int.reduceLE, Int.reduceEq, reduceCtorEq, ↓reduceIte] at g1
  obtain ⟨v35, q33, h⟩ := bnd_some h
  have w34 := e13_1 a0 (0, List.replicate a0.length (⟨0, 0, 0⟩ : Rel)) v35 q33
  simp only [E13_1, X13_1] at w34
  try simp -implicitDefEqProofs only [go_sem, Nat.reduceLT, Nat.reduceAdd, Nat.reduceSub, Nat.reduceMul, Nat.reduceEqDiff, Nat.reduceBEq, Nat.reduceLeDiff, Int.reduceToNat, Int.reduceLT, Int.reduceLE, Int.reduceEq, reduceCtorEq, ↓reduceIte] at w34
  cases h
  simp -implicitDefEqProofs only [go_sem, Nat.reduceLT, Nat.reduceAdd, Nat.reduceSub, Nat.reduceMul, Nat.reduceEqDiff, Nat.reduceBEq, Nat.reduceLeDiff, Int.reduceToNat, Int.reduceLT, Int.reduceLE, Int.reduceEq, reduceCtorEq, ↓reduceIte, i13, c13, g1, w34]
-- f39 spec.l1In
theorem call39 (args : List AV) (S : St) : evCall T (evFL T) 39 args S = lendC (evFL T 39) S (lendAll S [[0], [0], [0]] args) := evCall0 fn39 rfl rfl args S
theorem callz39 (args : List AV) (S : St) : evCallFz T (evFL T) 39 args S = lendZ (evFL T 39) S [[0]] (lendAll S [[0], [0], [0]] args) := evCallFz0 fn39 rfl rfl args S
attribute [go_sem] call39 callz39
noncomputable def X39_1 (a0 : Int) (a1 : Int) (a2 : Int) (o : Bool) : Ex × Fr × St :=
  (.normal, frOf 15 (upd anyF 6 (.bool o)), [])
theorem e39_1 (a0 : Int) (a1 : Int) (a2 : Int) (o : Bool) (h : m39_1 a0 a1 a2 = some o) : evCL T 0 k39_1 (frOf 15 (upd (upd (upd anyF 0 (.int .i64 a0)) 1 (.int .i64 a1)) 2 (.int .i64 a2))) [] = some (X39_1 a0 a1 a2 o) := by
  unfold m39_1 at h
  try simp -implicitDefEqProofs only [go_sem, Nat.reduceLT, Nat.reduceAdd, Nat.reduceSub, Nat.reduceMul, Nat.reduceEqDiff, Nat.reduceBEq, Nat.reduceLeDiff, Int.reduceToNat, Int.reduceLT, Int.reduceLE, Int.reduceEq, reduceCtorEq, ↓reduceIte, X39_1, k39_1]
  cases b1 : (leI a1 a0 : Bool)
  · replace h := br_f b1 h
    cases h
    simp -implicitDefEqProofs only [go_sem, Nat.reduceLT, Nat.reduceAdd, Nat.reduceSub, Nat.reduceMul, Nat.reduceEqDiff, Nat.reduceBEq, Nat.reduceLeDiff, Int.reduceToNat, Int.reduceLT, Int.reduceLE, Int.reduceEq, reduceCtorEq, ↓reduceIte, X39_1, k39_1, b1]
  · replace h := br_t b1 h
    cases h
    simp -implicitDefEqProofs only [go_sem, Nat.reduceLT, Nat.reduceAdd, Nat.reduceSub, Nat.reduceMul, Nat.reduceEqDiff, Nat.reduceBEq, Nat.reduceLeDiff, Int.reduceToNat, Int.reduceLT, Int.reduceLE, Int.reduceEq, reduceCtorEq, ↓reduceIte, X39_1, k39_1, b1]
theorem e39 (a0 : Int) (a1 : Int) (a2 : Int) (r : Bool) (h : m39 a0 a1 a2 = some r) : evFL T 39 [.int .i64 a0, .int .i64 a1, .int .i64 a2] [] = some (.bool r, []) := by
  unfold m39 at h
  rw [evFL_at fn39 (Nat.le_of_ble_eq_true rfl) rfl (.inr rfl)]
  obtain ⟨v4, q2, h⟩ := bnd_some h
  have w3 := e39_1 a0 a1 a2 v4 q2
  simp only [X39_1] at w3
  try simp -implicitDefEqProofs only [go_sem, Nat.reduceLT, Nat.reduceAdd, Nat.reduceSub, Nat.reduceMul, Nat.reduceEqDiff, Nat.reduceBEq, Nat.reduceLeDiff, Int.reduceToNat, Int.reduceLT, Int.reduceLE, Int.reduceEq, reduceCtorEq, ↓reduceIte] at w3
  cases h
  simp -implicitDefEqProofs only [go_sem, Nat.reduceLT, Nat.reduceAdd, Nat.reduceSub, Nat.reduceMul, Nat.reduceEqDiff, Nat.reduceBEq, Nat.reduceLeDiff, Int.reduceToNat, Int.reduceLT, Int.reduceLE, Int.reduceEq, reduceCtorEq, ↓reduceIte, i39, c39, w3]
-- f12 spec.GoodRels
theorem call12 (args : List AV) (S : St) : evCall T (evFL T) 12 args S = lendC (evFL T 12) S (lendAll S [[0], [3]] args) := evCall0 fn12 rfl rfl args S
theorem callz12 (args : List AV) (S : St) : evCallFz T (evFL T) 12 args S = lendZ (evFL T 12) S [[0]] (lendAll S [[0], [3]] args) := evCallFz0 fn12 rfl rfl args S
attribute [go_sem] call12 callz12
noncomputable def X12_1 (a0 : Int) (a1 : (List Rel)) (o : Bool) : Ex × Fr × St :=
  (.normal, frOf 68 (upd (upd (upd anyF 0 (.int .i64 a0)) 1 (.ts .imm 3 (a1.map encRel))) 16 (.bool o)), [])
theorem e12_1 (a0 : Int) (a1 : (List Rel)) (o : Bool) (h : m12_1 a0 a1 = some o) : evCL T 0 k12_1 (frOf 68 (upd (upd anyF 0 (.int .i64 a0)) 1 (.ts .imm 3 (a1.map encRel)))) [] = some (X12_1 a0 a1 o) := by
  unfold m12_1 at h
  obtain ⟨r3, q1, h⟩ := bnd_some h
  have w2 := e39 a0 1 5 r3 q1
  try simp -implicitDefEqProofs only [go_sem, Nat.reduceLT, Nat.reduceAdd, Nat.reduceSub, Nat.reduceMul, Nat.reduceEqDiff, Nat.reduceBEq, Nat.reduceLeDiff, Int.reduceToNat, Int.reduceLT, Int.reduceLE, Int.reduceEq, reduceCtorEq, ↓reduceIte] at w2
  try simp -implicitDefEqProofs only [go_sem, Nat.reduceLT, Nat.reduceAdd, Nat.reduceSub, Nat.reduceMul, Nat.reduceEqDiff, Nat.reduceBEq, Nat.reduceLeDiff, Int.reduceToNat, Int.reduceLT, Int.reduceLE, Int.reduceEq, reduceCtorEq, ↓reduceIte, X12_1, k12_1, w2]
  cases b4 : (r3 : Bool)
  · replace h := br_f b4 h
    cases h
    simp -implicitDefEqProofs only [go_sem, Nat.reduceLT, Nat.reduceAdd, Nat.reduceSub, Nat.reduceMul, Nat.reduceEqDiff, Nat.reduceBEq, Nat.reduceLeDiff, Int.reduceToNat, Int.reduceLT, Int.reduceLE, Int.reduceEq, reduceCtorEq, ↓reduceIte, X12_1, k12_1, w2, b4]
  · replace h := br_t b4 h
    cases h
    simp -implicitDefEqProofs only [go_sem, Nat.reduceLT, Nat.reduceAdd, Nat.reduceSub, Nat.reduceMul, Nat.reduceEqDiff, Nat.reduceBEq, Nat.reduceLeDiff, Int.reduceToNat, Int.reduceLT, Int.reduceLE, Int.reduceEq, reduceCtorEq, ↓reduceIte, X12_1, k12_1, w2, b4]
noncomputable def X12_7 (a0 : Int) (a1 : (List Rel)) (s54 : Int) (p9 : Int) (x56 : Rel) (o : Bool) : Ex × Fr × St :=
  (.normal, frOf 68 (upd (upd (upd (upd (upd (upd (upd (upd anyF 0 (.int .i64 a0)) 1 (.ts .imm 3 (a1.map encRel))) 5 (.int .i64 s54)) 6 (.ptr 0 0 0)) 17 (.ts .imm 3 (a1.map encRel))) 18 (.int .i64 p9)) 19 (.int .i64 s54)) 45 (.bool o)), [some ⟨.box, 3, [[.int .i64 x56.a, .int .i64 x56.b, .int .i64 x56.kind]]⟩])
theorem e12_7 (a0 : Int) (a1 : (List Rel)) (s54 : Int) (p9 : Int) (x56 : Rel) (o : Bool) (h : m12_7 a0 x56 = some o) : evCL T 0 k12_7 (frOf 68 (upd (upd (upd (upd (upd (upd (upd anyF 0 (.int .i64 a0)) 1 (.ts .imm 3 (a1.map encRel))) 5 (.int .i64 s54)) 6 (.ptr 0 0 0)) 17 (.ts .imm 3 (a1.map encRel))) 18 (.int .i64 p9)) 19 (.int .i64 s54))) [some ⟨.box, 3, [[.int .i64 x56.a, .int .i64 x56.b, .int .i64 x56.kind]]⟩] = some (X12_7 a0 a1 s54 p9 x56 o) := by
  unfold m12_7 at h
  try simp -implicitDefEqProofs only [go_sem, Nat.reduceLT, Nat.reduceAdd, Nat.reduceSub, Nat.reduceMul, Nat.reduceEqDiff, Nat.reduceBEq, Nat.reduceLeDiff, Int.reduceToNat, Int.reduceLT, Int.reduceLE, Int.reduceEq, reduceCtorEq, ↓reduceIte, X12_7, k12_7]
  cases b61 : (ltI x56.a 0 : Bool)
  · replace h := br_f b61 h
    try simp -implicitDefEqProofs only [go_sem, Nat.reduceLT, Nat.reduceAdd, Nat.reduceSub, Nat.reduceMul, Nat.reduceEqDiff, Nat.reduceBEq, Nat.reduceLeDiff, Int.reduceToNat, Int.reduceLT, Int.reduceLE, Int.reduceEq, reduceCtorEq, ↓reduceIte, X12_7, k12_7, b61]
    cases b62 : (leI x56.b x56.a : Bool)
    · replace h := br_f b62 h
      try simp -implicitDefEqProofs only [go_sem, Nat.reduceLT, Nat.reduceAdd, Nat.reduceSub, Nat.reduceMul, Nat.reduceEqDiff, Nat.reduceBEq, Nat.reduceLeDiff, Int.reduceToNat, Int.reduceLT, Int.reduceLE, Int.reduceEq, reduceCtorEq, ↓reduceIte, X12_7, k12_7, b61, b62]
      cases b63 : (ltI a0 x56.b : Bool)
      · replace h := br_f b63 h
        obtain ⟨r66, q64, h⟩ := bnd_some h
        have w65 := e39 x56.kind 1 3 r66 q64
        try simp -implicitDefEqProofs only [go_sem, Nat.reduceLT, Nat.reduceAdd, Nat.reduceSub, Nat.reduceMul, Nat.reduceEqDiff, Nat.reduceBEq, Nat.reduceLeDiff, Int.reduceToNat, Int.reduceLT, Int.reduceLE, Int.reduceEq, reduceCtorEq, ↓reduceIte] at w65
        cases h
        simp -implicitDefEqProofs only [go_sem, Nat.reduceLT, Nat.reduceAdd, Nat.reduceSub, Nat.reduceMul, Nat.reduceEqDiff, Nat.reduceBEq, Nat.reduceLeDiff, Int.reduceToNat, Int.reduceLT, Int.reduceLE, Int.reduceEq, reduceCtorEq, ↓reduceIte, X12_7, k12_7, b61, b62, b63, w65]
      · replace h := br_t b63 h
        cases h
        simp -implicitDefEqProofs only [go_sem, Nat.reduceLT, Nat.reduceAdd, Nat.reduceSub, Nat.reduceMul, Nat.reduceEqDiff, Nat.reduceBEq, Nat.reduceLeDiff, Int.reduceToNat, Int.reduceLT, Int.reduceLE, Int.reduceEq, reduceCtorEq, ↓reduceIte, X12_7, k12_7, b61, b62, b63]
    · replace h := br_t b62 h
      cases h
      simp -implicitDefEqProofs only [go_sem, Nat.reduceLT, Nat.reduceAdd, Nat.reduceSub, Nat.reduceMul, Nat.reduceEqDiff, Nat.reduceBEq, Nat.reduceLeDiff, Int.reduceToNat, Int.reduceLT, Int.reduceLE, Int.reduceEq, reduceCtorEq, ↓reduceIte, X12_7, k12_7, b61, b62]
  · replace h := br_t b61 h
    cases h
    simp -implicitDefEqProofs only [go_sem, Nat.reduceLT, Nat.reduceAdd, Nat.reduceSub, Nat.reduceMul, Nat.reduceEqDiff, Nat.reduceBEq, Nat.reduceLeDiff, Int.reduceToNat, Int.reduceLT, Int.reduceLE, Int.reduceEq, reduceCtorEq, ↓reduceIte, X12_7, k12_7, b61]
noncomputable def X12_10 (a0 : Int) (a1 : (List Rel)) (p9 : Int) (s54 : Int) (p72 : List Rel) (p73 : Int) (s85 : Int) (x56 : Rel) (x87 : Rel) (o : Bool) : Ex × Fr × St :=
  (.normal, frOf 68 (upd (upd (upd (upd (upd (upd (upd (upd (upd (upd anyF 0 (.int .i64 a0)) 1 (.ts .imm 3 (a1.map encRel))) 6 (.ptr 0 0 0)) 17 (.ts .imm 3 (a1.map encRel))) 18 (.int .i64 p9)) 19 (.int .i64 s54)) 48 (.ts .imm 3 (p72.map encRel))) 49 (.int .i64 p73)) 50 (.int .i64 s85)) 65 (.bool o)), [some ⟨.box, 3, [[.int .i64 x56.a, .int .i64 x56.b, .int .i64 x56.kind]]⟩])
theorem e12_10 (a0 : Int) (a1 : (List Rel)) (p9 : Int) (s54 : Int) (p72 : List Rel) (p73 : Int) (s85 : Int) (x56 : Rel) (x87 : Rel) (o : Bool) (h : m12_10 x56 x87 = some o) : evCL T 0 k12_10 (frOf 68 (upd (upd (upd (upd (upd (upd (upd (upd (upd (upd anyF 0 (.int .i64 a0)) 1 (.ts .imm 3 (a1.map encRel))) 6 (.ptr 0 0 0)) 8 (.ptr 1 0 0)) 17 (.ts .imm 3 (a1.map encRel))) 18 (.int .i64 p9)) 19 (.int .i64 s54)) 48 (.ts .imm 3 (p72.map encRel))) 49 (.int .i64 p73)) 50 (.int .i64 s85))) [some ⟨.box, 3, [[.int .i64 x56.a, .int .i64 x56.b, .int .i64 x56.kind]]⟩, some ⟨.box, 3, [[.int .i64 x87.a, .int .i64 x87.b, .int .i64 x87.kind]]⟩] = some (X12_10 a0 a1 p9 s54 p72 p73 s85 x56 x87 o) := by
  unfold m12_10 at h
  try simp -implicitDefEqProofs only [go_sem, Nat.reduceLT, Nat.reduceAdd, Nat.reduceSub, Nat.reduceMul, Nat.reduceEqDiff, Nat.reduceBEq, Nat.reduceLeDiff, Int.reduceToNat, Int.reduceLT, Int.reduceLE, Int.reduceEq, reduceCtorEq, ↓reduceIte, X12_10, k12_10]
  cases b92 : (eqI x87.a x56.a : Bool)
  · replace h := br_f b92 h
    cases h
    simp -implicitDefEqProofs only [go_sem, Nat.reduceLT, Nat.reduceAdd, Nat.reduceSub, Nat.reduceMul, Nat.reduceEqDiff, Nat.reduceBEq, Nat.reduceLeDiff, Int.reduceToNat, Int.reduceLT, Int.reduceLE, Int.reduceEq, reduceCtorEq, ↓reduceIte, X12_10, k12_10, b92]
  · replace h := br_t b92 h
    cases h
    simp -implicitDefEqProofs only [go_sem, Nat.reduceLT, Nat.reduceAdd, Nat.reduceSub, Nat.reduceMul, Nat.reduceEqDiff, Nat.reduceBEq, Nat.reduceLeDiff, Int.reduceToNat, Int.reduceLT, Int.reduceLE, Int.reduceEq, reduceCtorEq, ↓reduceIte, X12_10, k12_10, b92]
noncomputable def X12_8 (a0 : Int) (a1 : (List Rel)) (p9 : Int) (s54 : Int) (p72 : List Rel) (p73 : Int) (x56 : Rel) (o : (Unit ⊕ Unit)) : Ex × Fr × St :=
  match o with
  | .inl o => (.exit 2, frOf 68 (upd (upd (upd (upd (upd anyF 0 (.int .i64 a0)) 1 (.ts .imm 3 (a1.map encRel))) 17 (.ts .imm 3 (a1.map encRel))) 18 (.int .i64 p9)) 19 (.int .i64 s54)), [])
  | .inr o => (.ret, frOf 68 (upd anyF 4 (.bool false)), [])
noncomputable def E12_8 (a0 : Int) (a1 : (List Rel)) (p9 : Int) (s54 : Int) (p72 : List Rel) (p73 : Int) (x56 : Rel) (s : Int) : Fr × St := (frOf 68 (upd (upd (upd (upd (upd (upd (upd (upd (upd anyF 0 (.int .i64 a0)) 1 (.ts .imm 3 (a1.map encRel))) 6 (.ptr 0 0 0)) 17 (.ts .imm 3 (a1.map encRel))) 18 (.int .i64 p9)) 19 (.int .i64 s54)) 48 (.ts .imm 3 (p72.map encRel))) 49 (.int .i64 p73)) 50 (.int .i64 s)), [some ⟨.box, 3, [[.int .i64 x56.a, .int .i64 x56.b, .int .i64 x56.kind]]⟩])
theorem b12_8 (a0 : Int) (a1 : (List Rel)) (p9 : Int) (s54 : Int) (p72 : List Rel) (p73 : Int) (x56 : Rel) (s : Int) (o : Ctl Int (Unit ⊕ Unit)) (h : m12_8b p72 p73 x56 s = some o) : evCL T 0 k12_8b (E12_8 a0 a1 p9 s54 p72 p73 x56 s).1 (E12_8 a0 a1 p9 s54 p72 p73 x56 s).2 = some (ctlX (E12_8 a0 a1 p9 s54 p72 p73 x56) (X12_8 a0 a1 p9 s54 p72 p73 x56) o) := by
  unfold m12_8b at h
  revert h
  generalize s = s85
  intro h
  try simp -implicitDefEqProofs only [go_sem, Nat.reduceLT, Nat.reduceAdd, Nat.reduceSub, Nat.reduceMul, Nat.reduceEqDiff, Nat.reduceBEq, Nat.reduceLeDiff, Int.reduceToNat, Int.reduceLT, Int.reduceLE, Int.reduceEq, reduceCtorEq, ↓reduceIte, E12_8, X12_8, k12_8b]
  cases b86 : (ltI s85 p73 : Bool)
  · replace h := br_f b86 h
    cases h
    simp -implicitDefEqProofs only [go_sem, Nat.reduceLT, Nat.reduceAdd, Nat.reduceSub, Nat.reduceMul, Nat.reduceEqDiff, Nat.reduceBEq, Nat.reduceLeDiff, Int.reduceToNat, Int.reduceLT, Int.reduceLE, Int.reduceEq, reduceCtorEq, ↓reduceIte, E12_8, X12_8, k12_8b, b86]
  · replace h := br_t b86 h
    obtain ⟨x87, q88, h⟩ := bnd_some h
    obtain ⟨g89, g90, g91⟩ := idx_row encRel q88
    try simp -implicitDefEqProofs only [go_sem, Nat.reduceLT, Nat.reduceAdd, Nat.reduceSub, Nat.reduceMul, Nat.reduceEqDiff, Nat.reduceBEq, Nat.reduceLeDiff, Int.reduceToNat, Int.reduceLT, Int.reduceLE, Int.reduceEq, reduceCtorEq, ↓reduceIte] at g90
    try simp -implicitDefEqProofs only [go_sem, Nat.reduceLT, Nat.reduceAdd, Nat.reduceSub, Nat.reduceMul, Nat.reduceEqDiff, Nat.reduceBEq, Nat.reduceLeDiff, Int.reduceToNat, Int.reduceLT, Int.reduceLE, Int.reduceEq, reduceCtorEq, ↓reduceIte] at g91
    obtain ⟨v95, q93, h⟩ := bnd_some h
    have w94 := e12_10 a0 a1 p9 s54 p72 p73 s85 x56 x87 v95 q93
    simp only [X12_10] at w94
    try simp -implicitDefEqProofs only [go_sem, Nat.reduceLT, Nat.reduceAdd, Nat.reduceSub, Nat.reduceMul, Nat.reduceEqDiff, Nat.reduceBEq, Nat.reduceLeDiff, Int.reduceToNat, Int.reduceLT, Int.reduceLE, Int.reduceEq, reduceCtorEq, ↓reduceIte] at w94
    try simp -implicitDefEqProofs only [go_sem, Nat.reduceLT, Nat.reduceAdd, Nat.reduceSub, Nat.reduceMul, Nat.reduceEqDiff, Nat.reduceBEq, Nat.reduceLeDiff, Int.reduceToNat, Int.reduceLT, Int.reduceLE, Int.reduceEq, reduceCtorEq, ↓reduceIte, E12_8, X12_8, k12_8b, b86, g89, g90, g91, w94]
    cases b96 : (v95 : Bool)
    · replace h := br_f b96 h
      cases h
      simp -implicitDefEqProofs only [go_sem, Nat.reduceLT, Nat.reduceAdd, Nat.reduceSub, Nat.reduceMul, Nat.reduceEqDiff, Nat.reduceBEq, Nat.reduceLeDiff, Int.reduceToNat, Int.reduceLT, Int.reduceLE, Int.reduceEq, reduceCtorEq, ↓reduceIte, E12_8, X12_8, k12_8b, b86, g89, g90, g91, w94, b96]
    · replace h := br_t b96 h
      cases h
      simp -implicitDefEqProofs only [go_sem, Nat.reduceLT, Nat.reduceAdd, Nat.reduceSub, Nat.reduceMul, Nat.reduceEqDiff, Nat.reduceBEq, Nat.reduceLeDiff, Int.reduceToNat, Int.reduceLT, Int.reduceLE, Int.reduceEq, reduceCtorEq, ↓reduceIte, E12_8, X12_8, k12_8b, b86, g89, g90, g91, w94, b96]
theorem e12_8 (a0 : Int) (a1 : (List Rel)) (p9 : Int) (s54 : Int) (p72 : List Rel) (p73 : Int) (x56 : Rel) (s : Int) (o : (Unit ⊕ Unit)) (h : loopP (m12_8b p72 p73 x56) s = some o) : evCL T 0 (.loop k12_8b) (E12_8 a0 a1 p9 s54 p72 p73 x56 s).1 (E12_8 a0 a1 p9 s54 p72 p73 x56 s).2 = some (X12_8 a0 a1 p9 s54 p72 p73 x56 o) :=
  loop_walk (E := E12_8 a0 a1 p9 s54 p72 p73 x56) (X := X12_8 a0 a1 p9 s54 p72 p73 x56) (by intro b; rcases b with b | b <;> (simp only [X12_8]; nofun)) (b12_8 a0 a1 p9 s54 p72 p73 x56) s o h
noncomputable def X12_2 (a0 : Int) (a1 : (List Rel)) (p9 : Int) (o : (Unit ⊕ Unit)) : Ex × Fr × St :=
  match o with
  | .inl o => (.exit 0, frOf 68 (anyF), [])
  | .inr o => (.ret, frOf 68 (upd anyF 4 (.bool false)), [])
noncomputable def E12_2 (a0 : Int) (a1 : (List Rel)) (p9 : Int) (s : Int) : Fr × St := (frOf 68 (upd (upd (upd (upd (upd anyF 0 (.int .i64 a0)) 1 (.ts .imm 3 (a1.map encRel))) 17 (.ts .imm 3 (a1.map encRel))) 18 (.int .i64 p9)) 19 (.int .i64 s)), [])
theorem b12_2 (a0 : Int) (a1 : (List Rel)) (p9 : Int) (s : Int) (o : Ctl Int (Unit ⊕ Unit)) (h : m12_2b a0 a1 p9 s = some o) : evCL T 0 k12_2b (E12_2 a0 a1 p9 s).1 (E12_2 a0 a1 p9 s).2 = some (ctlX (E12_2 a0 a1 p9) (X12_2 a0 a1 p9) o) := by
  unfold m12_2b at h
  revert h
  generalize s = s54
  intro h
  try simp -implicitDefEqProofs only [go_sem, Nat.reduceLT, Nat.reduceAdd, Nat.reduceSub, Nat.reduceMul, Nat.reduceEqDiff, Nat.reduceBEq, Nat.reduceLeDiff, Int.reduceToNat, Int.reduceLT, Int.reduceLE, Int.reduceEq, reduceCtorEq, ↓reduceIte, E12_2, X12_2, k12_2b]
  cases b55 : (ltI s54 p9 : Bool)
  · replace h := br_f b55 h
    cases h
    simp -implicitDefEqProofs only [go_sem, Nat.reduceLT, Nat.reduceAdd, Nat.reduceSub, Nat.reduceMul, Nat.reduceEqDiff, Nat.reduceBEq, Nat.reduceLeDiff, Int.reduceToNat, Int.reduceLT, Int.reduceLE, Int.reduceEq, reduceCtorEq, ↓reduceIte, E12_2, X12_2, k12_2b, b55]
  · replace h := br_t b55 h
    obtain ⟨x56, q57, h⟩ := bnd_some h
    obtain ⟨g58, g59, g60⟩ := idx_row encRel q57
    try simp -implicitDefEqProofs only [go_sem, Nat.reduceLT, Nat.reduceAdd, Nat.reduceSub, Nat.reduceMul, Nat.reduceEqDiff, Nat.reduceBEq, Nat.reduceLeDiff, Int.reduceToNat, Int.reduceLT, Int.reduceLE, Int.reduceEq, reduceCtorEq, ↓reduceIte] at g59
    try simp -implicitDefEqProofs only [go_sem, Nat.reduceLT, Nat.reduceAdd, Nat.reduceSub, Nat.reduceMul, Nat.reduceEqDiff, Nat.reduceBEq, Nat.reduceLeDiff, Int.reduceToNat, Int.reduceLT, Int.reduceLE, Int.reduceEq, reduceCtorEq, ↓reduceIte] at g60
    obtain ⟨v69, q67, h⟩ := bnd_some h
    have w68 := e12_7 a0 a1 s54 p9 x56 v69 q67
    simp only [X12_7] at w68
    try simp -implicitDefEqProofs only [go_sem, Nat.reduceLT, Nat.reduceAdd, Nat.reduceSub, Nat.reduceMul, Nat.reduceEqDiff, Nat.reduceBEq, Nat.reduceLeDiff, Int.reduceToNat, Int.reduceLT, Int.reduceLE, Int.reduceEq, reduceCtorEq, ↓reduceIte] at w68
    try simp -implicitDefEqProofs only [go_sem, Nat.reduceLT, Nat.reduceAdd, Nat.reduceSub, Nat.reduceMul, Nat.reduceEqDiff, Nat.reduceBEq, Nat.reduceLeDiff, Int.reduceToNat, Int.reduceLT, Int.reduceLE, Int.reduceEq, reduceCtorEq, ↓reduceIte, E12_2, X12_2, k12_2b, b55, g58, g59, g60, w68]
    cases b70 : (v69 : Bool)
    · replace h := br_f b70 h
      obtain ⟨g71, h⟩ := ck_some h
      try simp -implicitDefEqProofs only [go_sem, Nat.reduceLT, Nat.reduceAdd, Nat.reduceSub, Nat.reduceMul, Nat.reduceEqDiff, Nat.reduceBEq, Nat.reduceLeDiff, Int.reduceToNat, Int.reduceLT, Int.reduceLE, Int.reduceEq, reduceCtorEq, ↓reduceIte] at g71
      try simp -implicitDefEqProofs only [go_sem, Nat.reduceLT, Nat.reduceAdd, Nat.reduceSub, Nat.reduceMul, Nat.reduceEqDiff, Nat.reduceBEq, Nat.reduceLeDiff, Int.reduceToNat, Int.reduceLT, Int.reduceLE, Int.reduceEq, reduceCtorEq, ↓reduceIte, E12_2, X12_2, k12_2b, b55, g58, g59, g60, w68, b70, g71]
      obtain ⟨o, q97, h⟩ := bnd_some h
      rcases o with ⟨⟩ | ⟨⟩
      · replace h := selS_l h
        have w98 := e12_8 a0 a1 p9 s54 (a1.take s54.toNat) (↑((a1.take s54.toNat).length) : Int) x56 0 (.inl ()) q97
        simp only [E12_8, X12_8] at w98
        try simp -implicitDefEqProofs only [go_sem, Nat.reduceLT, Nat.reduceAdd, Nat.reduceSub, Nat.reduceMul, Nat.reduceEqDiff, Nat.reduceBEq, Nat.reduceLeDiff, Int.reduceToNat, Int.reduceLT, Int.reduceLE, Int.reduceEq, reduceCtorEq, ↓reduceIte] at w98
        cases h
        simp -implicitDefEqProofs only [go_sem, Nat.reduceLT, Nat.reduceAdd, Nat.reduceSub, Nat.reduceMul, Nat.reduceEqDiff, Nat.reduceBEq, Nat.reduceLeDiff, Int.reduceToNat, Int.reduceLT, Int.reduceLE, Int.reduceEq, reduceCtorEq, ↓reduceIte, E12_2, X12_2, k12_2b, b55, g58, g59, g60, w68, b70, g71, w98]
      · replace h := selS_r h
        have w98 := e12_8 a0 a1 p9 s54 (a1.take s54.toNat) (↑((a1.take s54.toNat).length) : Int) x56 0 (.inr ()) q97
        simp only [E12_8, X12_8] at w98
        try simp -implicitDefEqProofs only [go_sem, Nat.reduceLT, Nat.reduceAdd, Nat.reduceSub, Nat.reduceMul, Nat.reduceEqDiff, Nat.reduceBEq, Nat.reduceLeDiff, Int.reduceToNat, Int.reduceLT, Int.reduceLE, Int.reduceEq, reduceCtorEq, ↓reduceIte] at w98
        cases h
        simp -implicitDefEqProofs only [go_sem, Nat.reduceLT, Nat.reduceAdd, Nat.reduceSub, Nat.reduceMul, Nat.reduceEqDiff, Nat.reduceBEq, Nat.reduceLeDiff, Int.reduceToNat, Int.reduceLT, Int.reduceLE, Int.reduceEq, reduceCtorEq, ↓reduceIte, E12_2, X12_2, k12_2b, b55, g58, g59, g60, w68, b70, g71, w98]
    · replace h := br_t b70 h
      cases h
      simp -implicitDefEqProofs only [go_sem, Nat.reduceLT, Nat.reduceAdd, Nat.reduceSub, Nat.reduceMul, Nat.reduceEqDiff, Nat.reduceBEq, Nat.reduceLeDiff, Int.reduceToNat, Int.reduceLT, Int.reduceLE, Int.reduceEq, reduceCtorEq, ↓reduceIte, E12_2, X12_2, k12_2b, b55, g58, g59, g60, w68, b70]
theorem e12_2 (a0 : Int) (a1 : (List Rel)) (p9 : Int) (s : Int) (o : (Unit ⊕ Unit)) (h : loopP (m12_2b a0 a1 p9) s = some o) : evCL T 0 (.loop k12_2b) (E12_2 a0 a1 p9 s).1 (E12_2 a0 a1 p9 s).2 = some (X12_2 a0 a1 p9 o) :=
  loop_walk (E := E12_2 a0 a1 p9) (X := X12_2 a0 a1 p9) (by intro b; rcases b with b | b <;> (simp only [X12_2]; nofun)) (b12_2 a0 a1 p9) s o h
theorem e12 (a0 : Int) (a1 : (List Rel)) (r : Bool) (h : m12 a0 a1 = some r) : evFL T 12 [.int .i64 a0, .ts .imm 3 (a1.map encRel)] [] = some (.bool r, []) := by
  unfold m12 at h
  rw [evFL_at fn12 (Nat.le_of_ble_eq_true rfl) rfl (.inr rfl)]
  obtain ⟨v7, q5, h⟩ := bnd_some h
  have w6 := e12_1 a0 a1 v7 q5
  simp only [X12_1] at w6
  try simp -implicitDefEqProofs only [go_sem, Nat.reduceLT, Nat.reduceAdd, Nat.reduceSub, Nat.reduceMul, Nat.reduceEqDiff, Nat.reduceBEq, Nat.reduceLeDiff, Int.reduceToNat, Int.reduceLT, Int.reduceLE, Int.reduceEq, reduceCtorEq, ↓reduceIte] at w6
  try simp -implicitDefEqProofs only [go_sem, Nat.reduceLT, Nat.reduceAdd, Nat.reduceSub, Nat.reduceMul, Nat.reduceEqDiff, Nat.reduceBEq, Nat.reduceLeDiff, Int.reduceToNat, Int.reduceLT, Int.reduceLE, Int.reduceEq, reduceCtorEq, ↓reduceIte, i12, c12, w6]
  cases b8 : (v7 : Bool)
  · replace h := br_f b8 h
    try simp -implicitDefEqProofs only [go_sem, Nat.reduceLT, Nat.reduceAdd, Nat.reduceSub, Nat.reduceMul, Nat.reduceEqDiff, Nat.reduceBEq, Nat.reduceLeDiff, Int.reduceToNat, Int.reduceLT, Int.reduceLE, Int.reduceEq, reduceCtorEq, ↓reduceIte, i12, c12, w6, b8]
    obtain ⟨o, q99, h⟩ := bnd_some h
    rcases o with ⟨⟩ | ⟨⟩
    · replace h := selS_l h
      have w100 := e12_2 a0 a1 (↑a1.length : Int) 0 (.inl ()) q99
      simp only [E12_2, X12_2] at w100
      try simp -implicitDefEqProofs only [go_sem, Nat.reduceLT, Nat.reduceAdd, Nat.reduceSub, Nat.reduceMul, Nat.reduceEqDiff, Nat.reduceBEq, Nat.reduceLeDiff, Int.reduceToNat, Int.reduceLT, Int.reduceLE, Int.reduceEq, reduceCtorEq, ↓reduceIte] at w100
      cases h
      simp -implicitDefEqProofs only [go_sem, Nat.reduceLT, Nat.reduceAdd, Nat.reduceSub, Nat.reduceMul, Nat.reduceEqDiff, Nat.reduceBEq, Nat.reduceLeDiff, Int.reduceToNat, Int.reduceLT, Int.reduceLE, Int.reduceEq, reduceCtorEq, ↓reduceIte, i12, c12, w6, b8, w100]
    · replace h := selS_r h
      have w100 := e12_2 a0 a1 (↑a1.length : Int) 0 (.inr ()) q99
      simp only [E12_2, X12_2] at w100
      try simp -implicitDefEqProofs only [go_sem, Nat.reduceLT, Nat.reduceAdd, Nat.reduceSub, Nat.reduceMul, Nat.reduceEqDiff, Nat.reduceBEq, Nat.reduceLeDiff, Int.reduceToNat, Int.reduceLT, Int.reduceLE, Int.reduceEq, reduceCtorEq, ↓reduceIte] at w100
      cases h
      simp -implicitDefEqProofs only [go_sem, Nat.reduceLT, Nat.reduceAdd, Nat.reduceSub, Nat.reduceMul, Nat.reduceEqDiff, Nat.reduceBEq, Nat.reduceLeDiff, Int.reduceToNat, Int.reduceLT, Int.reduceLE, Int.reduceEq, reduceCtorEq, ↓reduceIte, i12, c12, w6, b8, w100]
  · replace h := br_t b8 h
    cases h
    simp -implicitDefEqProofs only [go_sem, Nat.reduceLT, Nat.reduceAdd, Nat.reduceSub, Nat.reduceMul, Nat.reduceEqDiff, Nat.reduceBEq, Nat.reduceLeDiff, Int.reduceToNat, Int.reduceLT, Int.reduceLE, Int.reduceEq, reduceCtorEq, ↓reduceIte, i12, c12, w6, b8]
-- f45 spec.l11Kind
theorem call45 (args : List AV) (S : St) : evCall T (evFL T) 45 args S = lendC (evFL T 45) S (lendAll S [[3], [0], [0]] args) := evCall0 fn45 rfl rfl args S
theorem callz45 (args : List AV) (S : St) : evCallFz T (evFL T) 45 args S = lendZ (evFL T 45) S [[0]] (lendAll S [[3], [0], [0]] args) := evCallFz0 fn45 rfl rfl args S
attribute [go_sem] call45 callz45
noncomputable def X45_4 (a1 : Int) (a2 : Int) (a0 : (List Rel)) (p1 : Int) (s18 : Int) (x20 : Rel) (o : Bool) : Ex × Fr × St :=
  (.normal, frOf 41 (upd (upd (upd (upd (upd (upd (upd anyF 1 (.int .i64 a1)) 2 (.int .i64 a2)) 8 (.ptr 0 0 0)) 9 (.ts .imm 3 (a0.map encRel))) 10 (.int .i64 p1)) 11 (.int .i64 s18)) 24 (.bool o)), [some ⟨.box, 3, [[.int .i64 x20.a, .int .i64 x20.b, .int .i64 x20.kind]]⟩])
theorem e45_4 (a1 : Int) (a2 : Int) (a0 : (List Rel)) (p1 : Int) (s18 : Int) (x20 : Rel) (o : Bool) (h : m45_4 a1 a2 x20 = some o) : evCL T 0 k45_4 (frOf 41 (upd (upd (upd (upd (upd (upd anyF 1 (.int .i64 a1)) 2 (.int .i64 a2)) 8 (.ptr 0 0 0)) 9 (.ts .imm 3 (a0.map encRel))) 10 (.int .i64 p1)) 11 (.int .i64 s18))) [some ⟨.box, 3, [[.int .i64 x20.a, .int .i64 x20.b, .int .i64 x20.kind]]⟩] = some (X45_4 a1 a2 a0 p1 s18 x20 o) := by
  unfold m45_4 at h
  try simp -implicitDefEqProofs only [go_sem, Nat.reduceLT, Nat.reduceAdd, Nat.reduceSub, Nat.reduceMul, Nat.reduceEqDiff, Nat.reduceBEq, Nat.reduceLeDiff, Int.reduceToNat, Int.reduceLT, Int.reduceLE, Int.reduceEq, reduceCtorEq, ↓reduceIte, X45_4, k45_4]
  cases b25 : (eqI x20.a a1 : Bool)
  · replace h := br_f b25 h
    cases h
    simp -implicitDefEqProofs only [go_sem, Nat.reduceLT, Nat.reduceAdd, Nat.reduceSub, Nat.reduceMul, Nat.reduceEqDiff, Nat.reduceBEq, Nat.reduceLeDiff, Int.reduceToNat, Int.reduceLT, Int.reduceLE, Int.reduceEq, reduceCtorEq, ↓reduceIte, X45_4, k45_4, b25]
  · replace h := br_t b25 h
    cases h
    simp -implicitDefEqProofs only [go_sem, Nat.reduceLT, Nat.reduceAdd, Nat.reduceSub, Nat.reduceMul, Nat.reduceEqDiff, Nat.reduceBEq, Nat.reduceLeDiff, Int.reduceToNat, Int.reduceLT, Int.reduceLE, Int.reduceEq, reduceCtorEq, ↓reduceIte, X45_4, k45_4, b25]
noncomputable def X45_5 (a1 : Int) (a2 : Int) (a0 : (List Rel)) (p1 : Int) (s18 : Int) (x20 : Rel) (o : Bool) : Ex × Fr × St :=
  (.normal, frOf 41 (upd (upd (upd (upd (upd (upd (upd anyF 1 (.int .i64 a1)) 2 (.int .i64 a2)) 8 (.ptr 0 0 0)) 9 (.ts .imm 3 (a0.map encRel))) 10 (.int .i64 p1)) 11 (.int .i64 s18)) 36 (.bool o)), [some ⟨.box, 3, [[.int .i64 x20.a, .int .i64 x20.b, .int .i64 x20.kind]]⟩])
theorem e45_5 (a1 : Int) (a2 : Int) (a0 : (List Rel)) (p1 : Int) (s18 : Int) (x20 : Rel) (o : Bool) (h : m45_5 a1 a2 x20 = some o) : evCL T 0 k45_5 (frOf 41 (upd (upd (upd (upd (upd (upd anyF 1 (.int .i64 a1)) 2 (.int .i64 a2)) 8 (.ptr 0 0 0)) 9 (.ts .imm 3 (a0.map encRel))) 10 (.int .i64 p1)) 11 (.int .i64 s18))) [some ⟨.box, 3, [[.int .i64 x20.a, .int .i64 x20.b, .int .i64 x20.kind]]⟩] = some (X45_5 a1 a2 a0 p1 s18 x20 o) := by
  unfold m45_5 at h
  try simp -implicitDefEqProofs only [go_sem, Nat.reduceLT, Nat.reduceAdd, Nat.reduceSub, Nat.reduceMul, Nat.reduceEqDiff, Nat.reduceBEq, Nat.reduceLeDiff, Int.reduceToNat, Int.reduceLT, Int.reduceLE, Int.reduceEq, reduceCtorEq, ↓reduceIte, X45_5, k45_5]
  cases b30 : (eqI x20.a a2 : Bool)
  · replace h := br_f b30 h
    cases h
    simp -implicitDefEqProofs only [go_sem, Nat.reduceLT, Nat.reduceAdd, Nat.reduceSub, Nat.reduceMul, Nat.reduceEqDiff, Nat.reduceBEq, Nat.reduceLeDiff, Int.reduceToNat, Int.reduceLT, Int.reduceLE, Int.reduceEq, reduceCtorEq, ↓reduceIte, X45_5, k45_5, b30]
  · replace h := br_t b30 h
    cases h
    simp -implicitDefEqProofs only [go_sem, Nat.reduceLT, Nat.reduceAdd, Nat.reduceSub, Nat.reduceMul, Nat.reduceEqDiff, Nat.reduceBEq, Nat.reduceLeDiff, Int.reduceToNat, Int.reduceLT, Int.reduceLE, Int.reduceEq, reduceCtorEq, ↓reduceIte, X45_5, k45_5, b30]
noncomputable def X45_1 (a1 : Int) (a2 : Int) (a0 : (List Rel)) (p1 : Int) (o : (Unit ⊕ Int)) : Ex × Fr × St :=
  match o with
  | .inl o => (.exit 0, frOf 41 (anyF), [])
  | .inr o => (.ret, frOf 41 (upd anyF 6 (.int .i64 o)), [])
noncomputable def E45_1 (a1 : Int) (a2 : Int) (a0 : (List Rel)) (p1 : Int) (s : Int) : Fr × St := (frOf 41 (upd (upd (upd (upd (upd anyF 1 (.int .i64 a1)) 2 (.int .i64 a2)) 9 (.ts .imm 3 (a0.map encRel))) 10 (.int .i64 p1)) 11 (.int .i64 s)), [])
theorem b45_1 (a1 : Int) (a2 : Int) (a0 : (List Rel)) (p1 : Int) (s : Int) (o : Ctl Int (Unit ⊕ Int)) (h : m45_1b a1 a2 a0 p1 s = some o) : evCL T 0 k45_1b (E45_1 a1 a2 a0 p1 s).1 (E45_1 a1 a2 a0 p1 s).2 = some (ctlX (E45_1 a1 a2 a0 p1) (X45_1 a1 a2 a0 p1) o) := by
  unfold m45_1b at h
  revert h
  generalize s = s18
  intro h
  try simp -implicitDefEqProofs only [go_sem, Nat.reduceLT, Nat.reduceAdd, Nat.reduceSub, Nat.reduceMul, Nat.reduceEqDiff, Nat.reduceBEq, Nat.reduceLeDiff, Int.reduceToNat, Int.reduceLT, Int.reduceLE, Int.reduceEq, reduceCtorEq, ↓reduceIte, E45_1, X45_1, k45_1b]
  cases b19 : (ltI s18 p1 : Bool)
  · replace h := br_f b19 h
    cases h
    simp -implicitDefEqProofs only [go_sem, Nat.reduceLT, Nat.reduceAdd, Nat.reduceSub, Nat.reduceMul, Nat.reduceEqDiff, Nat.reduceBEq, Nat.reduceLeDiff, Int.reduceToNat, Int.reduceLT, Int.reduceLE, Int.reduceEq, reduceCtorEq, ↓reduceIte, E45_1, X45_1, k45_1b, b19]
  · replace h := br_t b19 h
    obtain ⟨x20, q21, h⟩ := bnd_some h
    obtain ⟨g22, g23, g24⟩ := idx_row encRel q21
    try simp -implicitDefEqProofs only [go_sem, Nat.reduceLT, Nat.reduceAdd, Nat.reduceSub, Nat.reduceMul, Nat.reduceEqDiff, Nat.reduceBEq, Nat.reduceLeDiff, Int.reduceToNat, Int.reduceLT, Int.reduceLE, Int.reduceEq, reduceCtorEq, ↓reduceIte] at g23
    try simp -implicitDefEqProofs only [go_sem, Nat.reduceLT, Nat.reduceAdd, Nat.reduceSub, Nat.reduceMul, Nat.reduceEqDiff, Nat.reduceBEq, Nat.reduceLeDiff, Int.reduceToNat, Int.reduceLT, Int.reduceLE, Int.reduceEq, reduceCtorEq, ↓reduceIte] at g24
    obtain ⟨v28, q26, h⟩ := bnd_some h
    have w27 := e45_4 a1 a2 a0 p1 s18 x20 v28 q26
    simp only [X45_4] at w27
    try simp -implicitDefEqProofs only [go_sem, Nat.reduceLT, Nat.reduceAdd, Nat.reduceSub, Nat.reduceMul, Nat.reduceEqDiff, Nat.reduceBEq, Nat.reduceLeDiff, Int.reduceToNat, Int.reduceLT, Int.reduceLE, Int.reduceEq, reduceCtorEq, ↓reduceIte] at w27
    try simp -implicitDefEqProofs only [go_sem, Nat.reduceLT, Nat.reduceAdd, Nat.reduceSub, Nat.reduceMul, Nat.reduceEqDiff, Nat.reduceBEq, Nat.reduceLeDiff, Int.reduceToNat, Int.reduceLT, Int.reduceLE, Int.reduceEq, reduceCtorEq, ↓reduceIte, E45_1, X45_1, k45_1b, b19, g22, g23, g24, w27]
    cases b29 : (v28 : Bool)
    · replace h := br_f b29 h
      obtain ⟨v33, q31, h⟩ := bnd_some h
      have w32 := e45_5 a1 a2 a0 p1 s18 x20 v33 q31
      simp only [X45_5] at w32
      try simp -implicitDefEqProofs only [go_sem, Nat.reduceLT, Nat.reduceAdd, Nat.reduceSub, Nat.reduceMul, Nat.reduceEqDiff, Nat.reduceBEq, Nat.reduceLeDiff, Int.reduceToNat, Int.reduceLT, Int.reduceLE, Int.reduceEq, reduceCtorEq, ↓reduceIte] at w32
      try simp -implicitDefEqProofs only [go_sem, Nat.reduceLT, Nat.reduceAdd, Nat.reduceSub, Nat.reduceMul, Nat.reduceEqDiff, Nat.reduceBEq, Nat.reduceLeDiff, Int.reduceToNat, Int.reduceLT, Int.reduceLE, Int.reduceEq, reduceCtorEq, ↓reduceIte, E45_1, X45_1, k45_1b, b19, g22, g23, g24, w27, b29, w32]
      cases b34 : (v33 : Bool)
      · replace h := br_f b34 h
        cases h
        simp -implicitDefEqProofs only [go_sem, Nat.reduceLT, Nat.reduceAdd, Nat.reduceSub, Nat.reduceMul, Nat.reduceEqDiff, Nat.reduceBEq, Nat.reduceLeDiff, Int.reduceToNat, Int.reduceLT, Int.reduceLE, Int.reduceEq, reduceCtorEq, ↓reduceIte, E45_1, X45_1, k45_1b, b19, g22, g23, g24, w27, b29, w32, b34]
      · replace h := br_t b34 h
        cases h
        simp -implicitDefEqProofs only [go_sem, Nat.reduceLT, Nat.reduceAdd, Nat.reduceSub, Nat.reduceMul, Nat.reduceEqDiff, Nat.reduceBEq, Nat.reduceLeDiff, Int.reduceToNat, Int.reduceLT, Int.reduceLE, Int.reduceEq, reduceCtorEq, ↓reduceIte, E45_1, X45_1, k45_1b, b19, g22, g23, g24, w27, b29, w32, b34]
    · replace h := br_t b29 h
      cases h
      simp -implicitDefEqProofs only [go_sem, Nat.reduceLT, Nat.reduceAdd, Nat.reduceSub, Nat.reduceMul, Nat.reduceEqDiff, Nat.reduceBEq, Nat.reduceLeDiff, Int.reduceToNat, Int.reduceLT, Int.reduceLE, Int.reduceEq, reduceCtorEq, ↓reduceIte, E45_1, X45_1, k45_1b, b19, g22, g23, g24, w27, b29]
theorem e45_1 (a1 : Int) (a2 : Int) (a0 : (List Rel)) (p1 : Int) (s : Int) (o : (Unit ⊕ Int)) (h : loopP (m45_1b a1 a2 a0 p1) s = some o) : evCL T 0 (.loop k45_1b) (E45_1 a1 a2 a0 p1 s).1 (E45_1 a1 a2 a0 p1 s).2 = some (X45_1 a1 a2 a0 p1 o) :=
  loop_walk (E := E45_1 a1 a2 a0 p1) (X := X45_1 a1 a2 a0 p1) (by intro b; rcases b with b | b <;> (simp only [X45_1]; nofun)) (b45_1 a1 a2 a0 p1) s o h
theorem e45 (a0 : (List Rel)) (a1 : Int) (a2 : Int) (r : Int) (h : m45 a0 a1 a2 = some r) : evFL T 45 [.ts .imm 3 (a0.map encRel), .int .i64 a1, .int .i64 a2] [] = some (.int .i64 r, []) := by
  unfold m45 at h
  rw [evFL_at fn45 (Nat.le_of_ble_eq_true rfl) rfl (.inr rfl)]
  try simp -implicitDefEqProofs only [go_sem, Nat.reduceLT, Nat.reduceAdd, Nat.reduceSub, Nat.reduceMul, Nat.reduceEqDiff, Nat.reduceBEq, Nat.reduceLeDiff, Int.reduceToNat, Int.reduceLT, Int.reduceLE, Int.reduceEq, reduceCtorEq, ↓reduceIte, i45, c45]
  obtain ⟨o, q35, h⟩ := bnd_some h
  rcases o with ⟨⟩ | v37
  · replace h := selS_l h
    have w36 := e45_1 a1 a2 a0 (↑a0.length : Int) 0 (.inl ()) q35
    simp only [E45_1, X45_1] at w36
    try simp -implicitDefEqProofs only [go_sem, Nat.reduceLT, Nat.reduceAdd, Nat.reduceSub, Nat.reduceMul, Nat.reduceEqDiff, Nat.reduceBEq, Nat.reduceLeDiff, Int.reduceToNat, Int.reduceLT, Int.reduceLE, Int.reduceEq, reduceCtorEq, ↓reduceIte] at w36
    cases h
    simp -implicitDefEqProofs only [go_sem, Nat.reduceLT, Nat.reduceAdd, Nat.reduceSub, Nat.reduceMul, Nat.reduceEqDiff, Nat.reduceBEq, Nat.reduceLeDiff, Int.reduceToNat, Int.reduceLT, Int.reduceLE, Int.reduceEq, reduceCtorEq, ↓reduceIte, i45, c45, w36]
  · replace h := selS_r h
    have w36 := e45_1 a1 a2 a0 (↑a0.length : Int) 0 (.inr v37) q35
    simp only [E45_1, X45_1] at w36
    try simp -implicitDefEqProofs only [go_sem, Nat.reduceLT, Nat.reduceAdd, Nat.reduceSub, Nat.reduceMul, Nat.reduceEqDiff, Nat.reduceBEq, Nat.reduceLeDiff, Int.reduceToNat, Int.reduceLT, Int.reduceLE, Int.reduceEq, reduceCtorEq, ↓reduceIte] at w36
    cases h
    simp -implicitDefEqProofs only [go_sem, Nat.reduceLT, Nat.reduceAdd, Nat.reduceSub, Nat.reduceMul, Nat.reduceEqDiff, Nat.reduceBEq, Nat.reduceLeDiff, Int.reduceToNat, Int.reduceLT, Int.reduceLE, Int.reduceEq, reduceCtorEq, ↓reduceIte, i45, c45, w36]
-- f47 spec.l1Has
theorem call47 (args : List AV) (S : St) : evCall T (evFL T) 47 args S = lendC (evFL T 47) S (lendAll S [[1], [0]] args) := evCall0 fn47 rfl rfl args S
theorem callz47 (args : List AV) (S : St) : evCallFz T (evFL T) 47 args S = lendZ (evFL T 47) S [[0]] (lendAll S [[1], [0]] args) := evCallFz0 fn47 rfl rfl args S
attribute [go_sem] call47 callz47
noncomputable def X47_1 (a1 : Int) (a0 : (List Int)) (p1 : Int) (o : (Unit ⊕ Unit)) : Ex × Fr × St :=
  match o with
  | .inl o => (.exit 0, frOf 17 (anyF), [])
  | .inr o => (.ret, frOf 17 (upd anyF 4 (.bool true)), [])
noncomputable def E47_1 (a1 : Int) (a0 : (List Int)) (p1 : Int) (s : Int) : Fr × St := (frOf 17 (upd (upd (upd (upd anyF 1 (.int .i64 a1)) 7 (.ts .imm 1 (a0.map encInt))) 8 (.int .i64 p1)) 9 (.int .i64 s)), [])
theorem b47_1 (a1 : Int) (a0 : (List Int)) (p1 : Int) (s : Int) (o : Ctl Int (Unit ⊕ Unit)) (h : m47_1b a1 a0 p1 s = some o) : evCL T 0 k47_1b (E47_1 a1 a0 p1 s).1 (E47_1 a1 a0 p1 s).2 = some (ctlX (E47_1 a1 a0 p1) (X47_1 a1 a0 p1) o) := by
  unfold m47_1b at h
  revert h
  generalize s = s9
  intro h
  try simp -implicitDefEqProofs only [go_sem, Nat.reduceLT, Nat.reduceAdd, Nat.reduceSub, Nat.reduceMul, Nat.reduceEqDiff, Nat.reduceBEq, Nat.reduceLeDiff, Int.reduceToNat, Int.reduceLT, Int.reduceLE, Int.reduceEq, reduceCtorEq, ↓reduceIte, E47_1, X47_1, k47_1b]
  cases b10 : (ltI s9 p1 : Bool)
  · replace h := br_f b10 h
    cases h
    simp -implicitDefEqProofs only [go_sem, Nat.reduceLT, Nat.reduceAdd, Nat.reduceSub, Nat.reduceMul, Nat.reduceEqDiff, Nat.reduceBEq, Nat.reduceLeDiff, Int.reduceToNat, Int.reduceLT, Int.reduceLE, Int.reduceEq, reduceCtorEq, ↓reduceIte, E47_1, X47_1, k47_1b, b10]
  · replace h := br_t b10 h
    obtain ⟨x11, q12, h⟩ := bnd_some h
    obtain ⟨g13, g14, g15⟩ := idx_row encInt q12
    try simp -implicitDefEqProofs only [go_sem, Nat.reduceLT, Nat.reduceAdd, Nat.reduceSub, Nat.reduceMul, Nat.reduceEqDiff, Nat.reduceBEq, Nat.reduceLeDiff, Int.reduceToNat, Int.reduceLT, Int.reduceLE, Int.reduceEq, reduceCtorEq, ↓reduceIte] at g14
    try simp -implicitDefEqProofs only [go_sem, Nat.reduceLT, Nat.reduceAdd, Nat.reduceSub, Nat.reduceMul, Nat.reduceEqDiff, Nat.reduceBEq, Nat.reduceLeDiff, Int.reduceToNat, Int.reduceLT, Int.reduceLE, Int.reduceEq, reduceCtorEq, ↓reduceIte] at g15
    try simp -implicitDefEqProofs only [go_sem, Nat.reduceLT, Nat.reduceAdd, Nat.reduceSub, Nat.reduceMul, Nat.reduceEqDiff, Nat.reduceBEq, Nat.reduceLeDiff, Int.reduceToNat, Int.reduceLT, Int.reduceLE, Int.reduceEq, reduceCtorEq, ↓reduceIte, E47_1, X47_1, k47_1b, b10, g13, g14, g15]
    cases b16 : (eqI x11 a1 : Bool)
    · replace h := br_f b16 h
      cases h
      simp -implicitDefEqProofs only [go_sem, Nat.reduceLT, Nat.reduceAdd, Nat.reduceSub, Nat.reduceMul, Nat.reduceEqDiff, Nat.reduceBEq, Nat.reduceLeDiff, Int.reduceToNat, Int.reduceLT, Int.reduceLE, Int.reduceEq, reduceCtorEq, ↓reduceIte, E47_1, X47_1, k47_1b, b10, g13, g14, g15, b16]
    · replace h := br_t b16 h
      cases h
      simp -implicitDefEqProofs only [go_sem, Nat.reduceLT, Nat.reduceAdd, Nat.reduceSub, Nat.reduceMul, Nat.reduceEqDiff, Nat.reduceBEq, Nat.reduceLeDiff, Int.reduceToNat, Int.reduceLT, Int.reduceLE, Int.reduceEq, reduceCtorEq, ↓reduceIte, E47_1, X47_1, k47_1b, b10, g13, g14, g15, b16]
theorem e47_1 (a1 : Int) (a0 : (List Int)) (p1 : Int) (s : Int) (o : (Unit ⊕ Unit)) (h : loopP (m47_1b a1 a0 p1) s = some o) : evCL T 0 (.loop k47_1b) (E47_1 a1 a0 p1 s).1 (E47_1 a1 a0 p1 s).2 = some (X47_1 a1 a0 p1 o) :=
  loop_walk (E := E47_1 a1 a0 p1) (X := X47_1 a1 a0 p1) (by intro b; rcases b with b | b <;> (simp only [X47_1]; nofun)) (b47_1 a1 a0 p1) s o h
theorem e47 (a0 : (List Int)) (a1 : Int) (r : Bool) (h : m47 a0 a1 = some r) : evFL T 47 [.ts .imm 1 (a0.map encInt), .int .i64 a1] [] = some (.bool r, []) := by
  unfold m47 at h
  rw [evFL_at fn47 (Nat.le_of_ble_eq_true rfl) rfl (.inr rfl)]
  try simp -implicitDefEqProofs only [go_sem, Nat.reduceLT, Nat.reduceAdd, Nat.reduceSub, Nat.reduceMul, Nat.reduceEqDiff, Nat.reduceBEq, Nat.reduceLeDiff, Int.reduceToNat, Int.reduceLT, Int.reduceLE, Int.reduceEq, reduceCtorEq, ↓reduceIte, i47, c47]
  obtain ⟨o, q17, h⟩ := bnd_some h
  rcases o with ⟨⟩ | ⟨⟩
  · replace h := selS_l h
    have w18 := e47_1 a1 a0 (↑a0.length : Int) 0 (.inl ()) q17
    simp only [E47_1, X47_1] at w18
    try simp -implicitDefEqProofs only [go_sem, Nat.reduceLT, Nat.reduceAdd, Nat.reduceSub, Nat.reduceMul, Nat.reduceEqDiff, Nat.reduceBEq, Nat.reduceLeDiff, Int.reduceToNat, Int.reduceLT, Int.reduceLE, Int.reduceEq, reduceCtorEq, ↓reduceIte] at w18
    cases h
    simp -implicitDefEqProofs only [go_sem, Nat.reduceLT, Nat.reduceAdd, Nat.reduceSub, Nat.reduceMul, Nat.reduceEqDiff, Nat.reduceBEq, Nat.reduceLeDiff, Int.reduceToNat, Int.reduceLT, Int.reduceLE, Int.reduceEq, reduceCtorEq, ↓reduceIte, i47, c47, w18]
  · replace h := selS_r h
    have w18 := e47_1 a1 a0 (↑a0.length : Int) 0 (.inr ()) q17
    simp only [E47_1, X47_1] at w18
    try simp -implicitDefEqProofs only [go_sem, Nat.reduceLT, Nat.reduceAdd, Nat.reduceSub, Nat.reduceMul, Nat.reduceEqDiff, Nat.reduceBEq, Nat.reduceLeDiff, Int.reduceToNat, Int.reduceLT, Int.reduceLE, Int.reduceEq, reduceCtorEq, ↓reduceIte] at w18
    cases h
    simp -implicitDefEqProofs only [go_sem, Nat.reduceLT, Nat.reduceAdd, Nat.reduceSub, Nat.reduceMul, Nat.reduceEqDiff, Nat.reduceBEq, Nat.reduceLeDiff, Int.reduceToNat, Int.reduceLT, Int.reduceLE, Int.reduceEq, reduceCtorEq, ↓reduceIte, i47, c47, w18]
-- f20 spec.NoRing
theorem call20 (args : List AV) (S : St) : evCall T (evFL T) 20 args S = lendC (evFL T 20) S (lendAll S [[0], [3]] args) := evCall0 fn20 rfl rfl args S
theorem callz20 (args : List AV) (S : St) : evCallFz T (evFL T) 20 args S = lendZ (evFL T 20) S [[0], [0]] (lendAll S [[0], [3]] args) := evCallFz0 fn20 rfl rfl args S
attribute [go_sem] call20 callz20
noncomputable def X20_23 (a0 : Int) (a1 : (List Rel)) (s115 : Int) (s170 : Int) (s196 : Int) (p212 : Bool) (s197 : List Int) (o : (List Int)) : Ex × Fr × St :=
  (.normal, frOf 51 (upd (upd (upd (upd (upd (upd anyF 0 (.int .i64 a0)) 1 (.ts .imm 3 (a1.map encRel))) 6 (.int .i64 s115)) 7 (.sl 0 0 o.length)) 8 (.int .i64 s170)) 9 (.int .i64 s196)), [some ⟨.arr, 1, o.map encInt⟩])
theorem e20_23 (a0 : Int) (a1 : (List Rel)) (s115 : Int) (s170 : Int) (s196 : Int) (p212 : Bool) (s197 : List Int) (o : (List Int)) (h : m20_23 s196 p212 s197 = some o) : evCL T 0 k20_23 (frOf 51 (upd (upd (upd (upd (upd (upd (upd anyF 0 (.int .i64 a0)) 1 (.ts .imm 3 (a1.map encRel))) 6 (.int .i64 s115)) 7 (.sl 0 0 s197.length)) 8 (.int .i64 s170)) 9 (.int .i64 s196)) 46 (.bool p212))) [some ⟨.arr, 1, s197.map encInt⟩] = some (X20_23 a0 a1 s115 s170 s196 p212 s197 o) := by
  unfold m20_23 at h
  try simp -implicitDefEqProofs only [go_sem, Nat.reduceLT, Nat.reduceAdd, Nat.reduceSub, Nat.reduceMul, Nat.reduceEqDiff, Nat.reduceBEq, Nat.reduceLeDiff, Int.reduceToNat, Int.reduceLT, Int.reduceLE, Int.reduceEq, reduceCtorEq, ↓reduceIte, X20_23, k20_23]
  cases b213 : (p212 : Bool)
  · replace h := br_f b213 h
    cases h
    simp -implicitDefEqProofs only [go_sem, Nat.reduceLT, Nat.reduceAdd, Nat.reduceSub, Nat.reduceMul, Nat.reduceEqDiff, Nat.reduceBEq, Nat.reduceLeDiff, Int.reduceToNat, Int.reduceLT, Int.reduceLE, Int.reduceEq, reduceCtorEq, ↓reduceIte, X20_23, k20_23, b213]
  · replace h := br_t b213 h
    obtain ⟨g214, h⟩ := ck_some h
    try simp -implicitDefEqProofs only [go_sem, Nat.reduceLT, Nat.reduceAdd, Nat.reduceSub, Nat.reduceMul, Nat.reduceEqDiff, Nat.reduceBEq, Nat.reduceLeDiff, Int.reduceToNat, Int.reduceLT, Int.reduceLE, Int.reduceEq, reduceCtorEq, ↓reduceIte] at g214
    cases h
    simp -implicitDefEqProofs only [go_sem, Nat.reduceLT, Nat.reduceAdd, Nat.reduceSub, Nat.reduceMul, Nat.reduceEqDiff, Nat.reduceBEq, Nat.reduceLeDiff, Int.reduceToNat, Int.reduceLT, Int.reduceLE, Int.reduceEq, reduceCtorEq, ↓reduceIte, X20_23, k20_23, b213, g214]
noncomputable def X20_22 (a0 : Int) (a1 : (List Rel)) (s115 : Int) (s170 : Int) (s196 : Int) (s197 : List Int) (o : (List Int ⊕ Unit)) : Ex × Fr × St :=
  match o with
  | .inl o => (.normal, frOf 51 (upd (upd (upd (upd (upd (upd anyF 0 (.int .i64 a0)) 1 (.ts .imm 3 (a1.map encRel))) 6 (.int .i64 s115)) 7 (.sl 0 0 o.length)) 8 (.int .i64 s170)) 9 (.int .i64 s196)), [some ⟨.arr, 1, o.map encInt⟩])
  | .inr o => (.ret, frOf 51 (upd (upd anyF 4 (.bool false)) 5 (.bool true)), [])
theorem e20_22 (a0 : Int) (a1 : (List Rel)) (s115 : Int) (s170 : Int) (s196 : Int) (s197 : List Int) (o : (List Int ⊕ Unit)) (h : m20_22 a1 s115 s170 s196 s197 = some o) : evCL T 0 k20_22 (frOf 51 (upd (upd (upd (upd (upd (upd anyF 0 (.int .i64 a0)) 1 (.ts .imm 3 (a1.map encRel))) 6 (.int .i64 s115)) 7 (.sl 0 0 s197.length)) 8 (.int .i64 s170)) 9 (.int .i64 s196))) [some ⟨.arr, 1, s197.map encInt⟩] = some (X20_22 a0 a1 s115 s170 s196 s197 o) := by
  unfold m20_22 at h
  obtain ⟨x199, q200, h⟩ := bnd_some h
  obtain ⟨g201, g202, g203⟩ := idx_row encInt q200
  try simp -implicitDefEqProofs only [go_sem, Nat.reduceLT, Nat.reduceAdd, Nat.reduceSub, Nat.reduceMul, Nat.reduceEqDiff, Nat.reduceBEq, Nat.reduceLeDiff, Int.reduceToNat, Int.reduceLT, Int.reduceLE, Int.reduceEq, reduceCtorEq, ↓reduceIte] at g202
  try simp -implicitDefEqProofs only [go_sem, Nat.reduceLT, Nat.reduceAdd, Nat.reduceSub, Nat.reduceMul, Nat.reduceEqDiff, Nat.reduceBEq, Nat.reduceLeDiff, Int.reduceToNat, Int.reduceLT, Int.reduceLE, Int.reduceEq, reduceCtorEq, ↓reduceIte] at g203
  obtain ⟨r206, q204, h⟩ := bnd_some h
  have w205 := e45 a1 x199 s196 r206 q204
  try simp -implicitDefEqProofs only [go_sem, Nat.reduceLT, Nat.reduceAdd, Nat.reduceSub, Nat.reduceMul, Nat.reduceEqDiff, Nat.reduceBEq, Nat.reduceLeDiff, Int.reduceToNat, Int.reduceLT, Int.reduceLE, Int.reduceEq, reduceCtorEq, ↓reduceIte] at w205
  try simp -implicitDefEqProofs only [go_sem, Nat.reduceLT, Nat.reduceAdd, Nat.reduceSub, Nat.reduceMul, Nat.reduceEqDiff, Nat.reduceBEq, Nat.reduceLeDiff, Int.reduceToNat, Int.reduceLT, Int.reduceLE, Int.reduceEq, reduceCtorEq, ↓reduceIte, X20_22, k20_22, g201, g202, g203, w205]
  cases b207 : (eqI r206 1 : Bool)
  · replace h := br_f b207 h
    cases h
    simp -implicitDefEqProofs only [go_sem, Nat.reduceLT, Nat.reduceAdd, Nat.reduceSub, Nat.reduceMul, Nat.reduceEqDiff, Nat.reduceBEq, Nat.reduceLeDiff, Int.reduceToNat, Int.reduceLT, Int.reduceLE, Int.reduceEq, reduceCtorEq, ↓reduceIte, X20_22, k20_22, g201, g202, g203, w205, b207]
  · replace h := br_t b207 h
    try simp -implicitDefEqProofs only [go_sem, Nat.reduceLT, Nat.reduceAdd, Nat.reduceSub, Nat.reduceMul, Nat.reduceEqDiff, Nat.reduceBEq, Nat.reduceLeDiff, Int.reduceToNat, Int.reduceLT, Int.reduceLE, Int.reduceEq, reduceCtorEq, ↓reduceIte, X20_22, k20_22, g201, g202, g203, w205, b207]
    cases b208 : (eqI s196 s115 : Bool)
    · replace h := br_f b208 h
      obtain ⟨r211, q209, h⟩ := bnd_some h
      have w210 := e47 s197 s196 r211 q209
      try simp -implicitDefEqProofs only [go_sem, Nat.reduceLT, Nat.reduceAdd, Nat.reduceSub, Nat.reduceMul, Nat.reduceEqDiff, Nat.reduceBEq, Nat.reduceLeDiff, Int.reduceToNat, Int.reduceLT, Int.reduceLE, Int.reduceEq, reduceCtorEq, ↓reduceIte] at w210
      obtain ⟨v217, q215, h⟩ := bnd_some h
      have w216 := e20_23 a0 a1 s115 s170 s196 (!r211) s197 v217 q215
      simp only [X20_23] at w216
      try simp -implicitDefEqProofs only [go_sem, Nat.reduceLT, Nat.reduceAdd, Nat.reduceSub, Nat.reduceMul, Nat.reduceEqDiff, Nat.reduceBEq, Nat.reduceLeDiff, Int.reduceToNat, Int.reduceLT, Int.reduceLE, Int.reduceEq, reduceCtorEq, ↓reduceIte] at w216
      cases h
      simp -implicitDefEqProofs only [go_sem, Nat.reduceLT, Nat.reduceAdd, Nat.reduceSub, Nat.reduceMul, Nat.reduceEqDiff, Nat.reduceBEq, Nat.reduceLeDiff, Int.reduceToNat, Int.reduceLT, Int.reduceLE, Int.reduceEq, reduceCtorEq, ↓reduceIte, X20_22, k20_22, g201, g202, g203, w205, b207, b208, w210, w216]
    · replace h := br_t b208 h
      cases h
      simp -implicitDefEqProofs only [go_sem, Nat.reduceLT, Nat.reduceAdd, Nat.reduceSub, Nat.reduceMul, Nat.reduceEqDiff, Nat.reduceBEq, Nat.reduceLeDiff, Int.reduceToNat, Int.reduceLT, Int.reduceLE, Int.reduceEq, reduceCtorEq, ↓reduceIte, X20_22, k20_22, g201, g202, g203, w205, b207, b208]
noncomputable def X20_19 (a0 : Int) (a1 : (List Rel)) (s115 : Int) (s170 : Int) (o : (List Int ⊕ Unit)) : Ex × Fr × St :=
  match o with
  | .inl o => (.exit 4, frOf 51 (upd (upd (upd (upd (upd anyF 0 (.int .i64 a0)) 1 (.ts .imm 3 (a1.map encRel))) 6 (.int .i64 s115)) 7 (.sl 0 0 o.length)) 8 (.int .i64 s170)), [some ⟨.arr, 1, o.map encInt⟩])
  | .inr o => (.ret, frOf 51 (upd (upd anyF 4 (.bool false)) 5 (.bool true)), [])
noncomputable def E20_19 (a0 : Int) (a1 : (List Rel)) (s115 : Int) (s170 : Int) (s : (Int × List Int)) : Fr × St := (frOf 51 (upd (upd (upd (upd (upd (upd anyF 0 (.int .i64 a0)) 1 (.ts .imm 3 (a1.map encRel))) 6 (.int .i64 s115)) 7 (.sl 0 0 s.2.length)) 8 (.int .i64 s170)) 9 (.int .i64 s.1)), [some ⟨.arr, 1, s.2.map encInt⟩])
theorem b20_19 (a0 : Int) (a1 : (List Rel)) (s115 : Int) (s170 : Int) (s : (Int × List Int)) (o : Ctl (Int × List Int) (List Int ⊕ Unit)) (h : m20_19b a0 a1 s115 s170 s = some o) : evCL T 0 k20_19b (E20_19 a0 a1 s115 s170 s).1 (E20_19 a0 a1 s115 s170 s).2 = some (ctlX (E20_19 a0 a1 s115 s170) (X20_19 a0 a1 s115 s170) o) := by
  unfold m20_19b at h
  obtain ⟨s196, s197⟩ := s
  replace h := sel2_some h
  try simp -implicitDefEqProofs only [go_sem, Nat.reduceLT, Nat.reduceAdd, Nat.reduceSub, Nat.reduceMul, Nat.reduceEqDiff, Nat.reduceBEq, Nat.reduceLeDiff, Int.reduceToNat, Int.reduceLT, Int.reduceLE, Int.reduceEq, reduceCtorEq, ↓reduceIte, E20_19, X20_19, k20_19b]
  cases b198 : (leI s196 a0 : Bool)
  · replace h := br_f b198 h
    cases h
    simp -implicitDefEqProofs only [go_sem, Nat.reduceLT, Nat.reduceAdd, Nat.reduceSub, Nat.reduceMul, Nat.reduceEqDiff, Nat.reduceBEq, Nat.reduceLeDiff, Int.reduceToNat, Int.reduceLT, Int.reduceLE, Int.reduceEq, reduceCtorEq, ↓reduceIte, E20_19, X20_19, k20_19b, b198]
  · replace h := br_t b198 h
    try simp -implicitDefEqProofs only [go_sem, Nat.reduceLT, Nat.reduceAdd, Nat.reduceSub, Nat.reduceMul, Nat.reduceEqDiff, Nat.reduceBEq, Nat.reduceLeDiff, Int.reduceToNat, Int.reduceLT, Int.reduceLE, Int.reduceEq, reduceCtorEq, ↓reduceIte, E20_19, X20_19, k20_19b, b198]
    obtain ⟨o, q218, h⟩ := bnd_some h
    rcases o with v220 | ⟨⟩
    · replace h := selS_l h
      have w219 := e20_22 a0 a1 s115 s170 s196 s197 (.inl v220) q218
      simp only [X20_22] at w219
      try simp -implicitDefEqProofs only [go_sem, Nat.reduceLT, Nat.reduceAdd, Nat.reduceSub, Nat.reduceMul, Nat.reduceEqDiff, Nat.reduceBEq, Nat.reduceLeDiff, Int.reduceToNat, Int.reduceLT, Int.reduceLE, Int.reduceEq, reduceCtorEq, ↓reduceIte] at w219
      cases h
      simp -implicitDefEqProofs only [go_sem, Nat.reduceLT, Nat.reduceAdd, Nat.reduceSub, Nat.reduceMul, Nat.reduceEqDiff, Nat.reduceBEq, Nat.reduceLeDiff, Int.reduceToNat, Int.reduceLT, Int.reduceLE, Int.reduceEq, reduceCtorEq, ↓reduceIte, E20_19, X20_19, k20_19b, b198, w219]
    · replace h := selS_r h
      have w219 := e20_22 a0 a1 s115 s170 s196 s197 (.inr ()) q218
      simp only [X20_22] at w219
      try simp -implicitDefEqProofs only [go_sem, Nat.reduceLT, Nat.reduceAdd, Nat.reduceSub, Nat.reduceMul, Nat.reduceEqDiff, Nat.reduceBEq, Nat.reduceLeDiff, Int.reduceToNat, Int.reduceLT, Int.reduceLE, Int.reduceEq, reduceCtorEq, ↓reduceIte] at w219
      cases h
      simp -implicitDefEqProofs only [go_sem, Nat.reduceLT, Nat.reduceAdd, Nat.reduceSub, Nat.reduceMul, Nat.reduceEqDiff, Nat.reduceBEq, Nat.reduceLeDiff, Int.reduceToNat, Int.reduceLT, Int.reduceLE, Int.reduceEq, reduceCtorEq, ↓reduceIte, E20_19, X20_19, k20_19b, b198, w219]
theorem e20_19 (a0 : Int) (a1 : (List Rel)) (s115 : Int) (s170 : Int) (s : (Int × List Int)) (o : (List Int ⊕ Unit)) (h : loopP (m20_19b a0 a1 s115 s170) s = some o) : evCL T 0 (.loop k20_19b) (E20_19 a0 a1 s115 s170 s).1 (E20_19 a0 a1 s115 s170 s).2 = some (X20_19 a0 a1 s115 s170 o) :=
  loop_walk (E := E20_19 a0 a1 s115 s170) (X := X20_19 a0 a1 s115 s170) (by intro b; rcases b with b | b <;> (simp only [X20_19]; nofun)) (b20_19 a0 a1 s115 s170) s o h
noncomputable def X20_13 (a0 : Int) (a1 : (List Rel)) (s115 : Int) (o : (Unit ⊕ Unit)) : Ex × Fr × St :=
  match o with
  | .inl o => (.exit 2, frOf 51 (upd (upd (upd anyF 0 (.int .i64 a0)) 1 (.ts .imm 3 (a1.map encRel))) 6 (.int .i64 s115)), [])
  | .inr o => (.ret, frOf 51 (upd (upd anyF 4 (.bool false)) 5 (.bool true)), [])
noncomputable def E20_13 (a0 : Int) (a1 : (List Rel)) (s115 : Int) (s : (Int × List Int)) : Fr × St := (frOf 51 (upd (upd (upd (upd (upd anyF 0 (.int .i64 a0)) 1 (.ts .imm 3 (a1.map encRel))) 6 (.int .i64 s115)) 7 (.sl 0 0 s.2.length)) 8 (.int .i64 s.1)), [some ⟨.arr, 1, s.2.map encInt⟩])
theorem b20_13 (a0 : Int) (a1 : (List Rel)) (s115 : Int) (s : (Int × List Int)) (o : Ctl (Int × List Int) (Unit ⊕ Unit)) (h : m20_13b a0 a1 s115 s = some o) : evCL T 0 k20_13b (E20_13 a0 a1 s115 s).1 (E20_13 a0 a1 s115 s).2 = some (ctlX (E20_13 a0 a1 s115) (X20_13 a0 a1 s115) o) := by
  unfold m20_13b at h
  obtain ⟨s170, s171⟩ := s
  replace h := sel2_some h
  try simp -implicitDefEqProofs only [go_sem, Nat.reduceLT, Nat.reduceAdd, Nat.reduceSub, Nat.reduceMul, Nat.reduceEqDiff, Nat.reduceBEq, Nat.reduceLeDiff, Int.reduceToNat, Int.reduceLT, Int.reduceLE, Int.reduceEq, reduceCtorEq, ↓reduceIte, E20_13, X20_13, k20_13b]
  cases b172 : (ltI s170 (↑s171.length : Int) : Bool)
  · replace h := br_f b172 h
    cases h
    simp -implicitDefEqProofs only [go_sem, Nat.reduceLT, Nat.reduceAdd, Nat.reduceSub, Nat.reduceMul, Nat.reduceEqDiff, Nat.reduceBEq, Nat.reduceLeDiff, Int.reduceToNat, Int.reduceLT, Int.reduceLE, Int.reduceEq, reduceCtorEq, ↓reduceIte, E20_13, X20_13, k20_13b, b172]
  · replace h := br_t b172 h
    try simp -implicitDefEqProofs only [go_sem, Nat.reduceLT, Nat.reduceAdd, Nat.reduceSub, Nat.reduceMul, Nat.reduceEqDiff, Nat.reduceBEq, Nat.reduceLeDiff, Int.reduceToNat, Int.reduceLT, Int.reduceLE, Int.reduceEq, reduceCtorEq, ↓reduceIte, E20_13, X20_13, k20_13b, b172]
    obtain ⟨o, q221, h⟩ := bnd_some h
    rcases o with v223 | ⟨⟩
    · replace h := selS_l h
      have w222 := e20_19 a0 a1 s115 s170 (0, s171) (.inl v223) q221
      simp only [E20_19, X20_19] at w222
      try simp -implicitDefEqProofs only [go_sem, Nat.reduceLT, Nat.reduceAdd, Nat.reduceSub, Nat.reduceMul, Nat.reduceEqDiff, Nat.reduceBEq, Nat.reduceLeDiff, Int.reduceToNat, Int.reduceLT, Int.reduceLE, Int.reduceEq, reduceCtorEq, ↓reduceIte] at w222
      cases h
      simp -implicitDefEqProofs only [go_sem, Nat.reduceLT, Nat.reduceAdd, Nat.reduceSub, Nat.reduceMul, Nat.reduceEqDiff, Nat.reduceBEq, Nat.reduceLeDiff, Int.reduceToNat, Int.reduceLT, Int.reduceLE, Int.reduceEq, reduceCtorEq, ↓reduceIte, E20_13, X20_13, k20_13b, b172, w222]
    · replace h := selS_r h
      have w222 := e20_19 a0 a1 s115 s170 (0, s171) (.inr ()) q221
      simp only [E20_19, X20_19] at w222
      try simp -implicitDefEqProofs only [go_sem, Nat.reduceLT, Nat.reduceAdd, Nat.reduceSub, Nat.reduceMul, Nat.reduceEqDiff, Nat.reduceBEq, Nat.reduceLeDiff, Int.reduceToNat, Int.reduceLT, Int.reduceLE, Int.reduceEq, reduceCtorEq, ↓reduceIte] at w222
      cases h
      simp -implicitDefEqProofs only [go_sem, Nat.reduceLT, Nat.reduceAdd, Nat.reduceSub, Nat.reduceMul, Nat.reduceEqDiff, Nat.reduceBEq, Nat.reduceLeDiff, Int.reduceToNat, Int.reduceLT, Int.reduceLE, Int.reduceEq, reduceCtorEq, ↓reduceIte, E20_13, X20_13, k20_13b, b172, w222]
theorem e20_13 (a0 : Int) (a1 : (List Rel)) (s115 : Int) (s : (Int × List Int)) (o : (Unit ⊕ Unit)) (h : loopP (m20_13b a0 a1 s115) s = some o) : evCL T 0 (.loop k20_13b) (E20_13 a0 a1 s115 s).1 (E20_13 a0 a1 s115 s).2 = some (X20_13 a0 a1 s115 o) :=
  loop_walk (E := E20_13 a0 a1 s115) (X := X20_13 a0 a1 s115) (by intro b; rcases b with b | b <;> (simp only [X20_13]; nofun)) (b20_13 a0 a1 s115) s o h
noncomputable def X20_1 (a0 : Int) (a1 : (List Rel)) (o : (Unit ⊕ Unit)) : Ex × Fr × St :=
  match o with
  | .inl o => (.exit 0, frOf 51 (anyF), [])
  | .inr o => (.ret, frOf 51 (upd (upd anyF 4 (.bool false)) 5 (.bool true)), [])
noncomputable def E20_1 (a0 : Int) (a1 : (List Rel)) (s : Int) : Fr × St := (frOf 51 (upd (upd (upd anyF 0 (.int .i64 a0)) 1 (.ts .imm 3 (a1.map encRel))) 6 (.int .i64 s)), [])
theorem b20_1 (a0 : Int) (a1 : (List Rel)) (s : Int) (o : Ctl Int (Unit ⊕ Unit)) (h : m20_1b a0 a1 s = some o) : evCL T 0 k20_1b (E20_1 a0 a1 s).1 (E20_1 a0 a1 s).2 = some (ctlX (E20_1 a0 a1) (X20_1 a0 a1) o) := by
  unfold m20_1b at h
  revert h
  generalize s = s115
  intro h
  try simp -implicitDefEqProofs only [go_sem, Nat.reduceLT, Nat.reduceAdd, Nat.reduceSub, Nat.reduceMul, Nat.reduceEqDiff, Nat.reduceBEq, Nat.reduceLeDiff, Int.reduceToNat, Int.reduceLT, Int.reduceLE, Int.reduceEq, reduceCtorEq, ↓reduceIte, E20_1, X20_1, k20_1b]
  cases b116 : (leI s115 a0 : Bool)
  · replace h := br_f b116 h
    cases h
    simp -implicitDefEqProofs only [go_sem, Nat.reduceLT, Nat.reduceAdd, Nat.reduceSub, Nat.reduceMul, Nat.reduceEqDiff, Nat.reduceBEq, Nat.reduceLeDiff, Int.reduceToNat, Int.reduceLT, Int.reduceLE, Int.reduceEq, reduceCtorEq, ↓reduceIte, E20_1, X20_1, k20_1b, b116]
  · replace h := br_t b116 h
    try simp -implicitDefEqProofs only [go_sem, Nat.reduceLT, Nat.reduceAdd, Nat.reduceSub, Nat.reduceMul, Nat.reduceEqDiff, Nat.reduceBEq, Nat.reduceLeDiff, Int.reduceToNat, Int.reduceLT, Int.reduceLE, Int.reduceEq, reduceCtorEq, ↓reduceIte, E20_1, X20_1, k20_1b, b116]
    obtain ⟨o, q224, h⟩ := bnd_some h
    rcases o with ⟨⟩ | ⟨⟩
    · replace h := selS_l h
      have w225 := e20_13 a0 a1 s115 (0, [s115]) (.inl ()) q224
      simp only [E20_13, X20_13] at w225
      try simp -implicitDefEqProofs only [go_sem, Nat.reduceLT, Nat.reduceAdd, Nat.reduceSub, Nat.reduceMul, Nat.reduceEqDiff, Nat.reduceBEq, Nat.reduceLeDiff, Int.reduceToNat, Int.reduceLT, Int.reduceLE, Int.reduceEq, reduceCtorEq, ↓reduceIte] at w225
      cases h
      simp -implicitDefEqProofs only [go_sem, Nat.reduceLT, Nat.reduceAdd, Nat.reduceSub, Nat.reduceMul, Nat.reduceEqDiff, Nat.reduceBEq, Nat.reduceLeDiff, Int.reduceToNat, Int.reduceLT, Int.reduceLE, Int.reduceEq, reduceCtorEq, ↓reduceIte, E20_1, X20_1, k20_1b, b116, w225]
    · replace h := selS_r h
      have w225 := e20_13 a0 a1 s115 (0, [s115]) (.inr ()) q224
      simp only [E20_13, X20_13] at w225
      try simp -implicitDefEqProofs only [go_sem, Nat.reduceLT, Nat.reduceAdd, Nat.reduceSub, Nat.reduceMul, Nat.reduceEqDiff, Nat.reduceBEq, Nat.reduceLeDiff, Int.reduceToNat, Int.reduceLT, Int.reduceLE, Int.reduceEq, reduceCtorEq, ↓reduceIte] at w225
      cases h
      simp -implicitDefEqProofs only [go_sem, Nat.reduceLT, Nat.reduceAdd, Nat.reduceSub, Nat.reduceMul, Nat.reduceEqDiff, Nat.reduceBEq, Nat.reduceLeDiff, Int.reduceToNat, Int.reduceLT, Int.reduceLE, Int.reduceEq, reduceCtorEq, ↓reduceIte, E20_1, X20_1, k20_1b, b116, w225]
theorem e20_1 (a0 : Int) (a1 : (List Rel)) (s : Int) (o : (Unit ⊕ Unit)) (h : loopP (m20_1b a0 a1) s = some o) : evCL T 0 (.loop k20_1b) (E20_1 a0 a1 s).1 (E20_1 a0 a1 s).2 = some (X20_1 a0 a1 o) :=
  loop_walk (E := E20_1 a0 a1) (X := X20_1 a0 a1) (by intro b; rcases b with b | b <;> (simp only [X20_1]; nofun)) (b20_1 a0 a1) s o h
theorem e20 (a0 : Int) (a1 : (List Rel)) (r : (Bool × Bool)) (h : m20 a0 a1 = some r) : evFL T 20 [.int .i64 a0, .ts .imm 3 (a1.map encRel)] [] = some (.tup [.bool r.1, .bool r.2], []) := by
  unfold m20 at h
  rw [evFL_at fn20 (Nat.le_of_ble_eq_true rfl) rfl (.inr rfl)]
  obtain ⟨r3, q1, h⟩ := bnd_some h
  have w2 := e12 a0 a1 r3 q1
  try simp -implicitDefEqProofs only [go_sem, Nat.reduceLT, Nat.reduceAdd, Nat.reduceSub, Nat.reduceMul, Nat.reduceEqDiff, Nat.reduceBEq, Nat.reduceLeDiff, Int.reduceToNat, Int.reduceLT, Int.reduceLE, Int.reduceEq, reduceCtorEq, ↓reduceIte] at w2
  try simp -implicitDefEqProofs only [go_sem, Nat.reduceLT, Nat.reduceAdd, Nat.reduceSub, Nat.reduceMul, Nat.reduceEqDiff, Nat.reduceBEq, Nat.reduceLeDiff, Int.reduceToNat, Int.reduceLT, Int.reduceLE, Int.reduceEq, reduceCtorEq, ↓reduceIte, i20, c20, w2]
  cases b4 : (r3 : Bool)
  · replace h := br_f b4 h
    cases h
    simp -implicitDefEqProofs only [go_sem, Nat.reduceLT, Nat.reduceAdd, Nat.reduceSub, Nat.reduceMul, Nat.reduceEqDiff, Nat.reduceBEq, Nat.reduceLeDiff, Int.reduceToNat, Int.reduceLT, Int.reduceLE, Int.reduceEq, reduceCtorEq, ↓reduceIte, i20, c20, w2, b4]
  · replace h := br_t b4 h
    try simp -implicitDefEqProofs only [go_sem, Nat.reduceLT, Nat.reduceAdd, Nat.reduceSub, Nat.reduceMul, Nat.reduceEqDiff, Nat.reduceBEq, Nat.reduceLeDiff, Int.reduceToNat, Int.reduceLT, Int.reduceLE, Int.reduceEq, reduceCtorEq, ↓reduceIte, i20, c20, w2, b4]
    obtain ⟨o, q226, h⟩ := bnd_some h
    rcases o with ⟨⟩ | ⟨⟩
    · replace h := selS_l h
      have w227 := e20_1 a0 a1 0 (.inl ()) q226
      simp only [E20_1, X20_1] at w227
      try simp -implicitDefEqProofs only [go_sem, Nat.reduceLT, Nat.reduceAdd, Nat.reduceSub, Nat.reduceMul, Nat.reduceEqDiff, Nat.reduceBEq, Nat.reduceLeDiff, Int.reduceToNat, Int.reduceLT, Int.reduceLE, Int.reduceEq, reduceCtorEq, ↓reduceIte] at w227
      cases h
      simp -implicitDefEqProofs only [go_sem, Nat.reduceLT, Nat.reduceAdd, Nat.reduceSub, Nat.reduceMul, Nat.reduceEqDiff, Nat.reduceBEq, Nat.reduceLeDiff, Int.reduceToNat, Int.reduceLT, Int.reduceLE, Int.reduceEq, reduceCtorEq, ↓reduceIte, i20, c20, w2, b4, w227]
    · replace h := selS_r h
      have w227 := e20_1 a0 a1 0 (.inr ()) q226
      simp only [E20_1, X20_1] at w227
      try simp -implicitDefEqProofs only [go_sem, Nat.reduceLT, Nat.reduceAdd, Nat.reduceSub, Nat.reduceMul, Nat.reduceEqDiff, Nat.reduceBEq, Nat.reduceLeDiff, Int.reduceToNat, Int.reduceLT, Int.reduceLE, Int.reduceEq, reduceCtorEq, ↓reduceIte] at w227
      cases h
      simp -implicitDefEqProofs only [go_sem, Nat.reduceLT, Nat.reduceAdd, Nat.reduceSub, Nat.reduceMul, Nat.reduceEqDiff, Nat.reduceBEq, Nat.reduceLeDiff, Int.reduceToNat, Int.reduceLT, Int.reduceLE, Int.reduceEq, reduceCtorEq, ↓reduceIte, i20, c20, w2, b4, w227]
-- f41 impl.within
theorem call41 (args : List AV) (S : St) : evCall T (evFL T) 41 args S = lendC (evFL T 41) S (lendAll S [[0], [0], [0]] args) := evCall0 fn41 rfl rfl args S
theorem callz41 (args : List AV) (S : St) : evCallFz T (evFL T) 41 args S = lendZ (evFL T 41) S [[0]] (lendAll S [[0], [0], [0]] args) := evCallFz0 fn41 rfl rfl args S
attribute [go_sem] call41 callz41
noncomputable def X41_1 (a0 : Int) (a1 : Int) (a2 : Int) (o : Bool) : Ex × Fr × St :=
  (.normal, frOf 15 (upd anyF 6 (.bool o)), [])
theorem e41_1 (a0 : Int) (a1 : Int) (a2 : Int) (o : Bool) (h : m41_1 a0 a1 a2 = some o) : evCL T 0 k41_1 (frOf 15 (upd (upd (upd anyF 0 (.int .i64 a0)) 1 (.int .i64 a1)) 2 (.int .i64 a2))) [] = some (X41_1 a0 a1 a2 o) := by
  unfold m41_1 at h
  try simp -implicitDefEqProofs only [go_sem, Nat.reduceLT, Nat.reduceAdd, Nat.reduceSub, Nat.reduceMul, Nat.reduceEqDiff, Nat.reduceBEq, Nat.reduceLeDiff, Int.reduceToNat, Int.reduceLT, Int.reduceLE, Int.reduceEq, reduceCtorEq, ↓reduceIte, X41_1, k41_1]
  cases b1 : (leI a1 a0 : Bool)
  · replace h := br_f b1 h
    cases h
    simp -implicitDefEqProofs only [go_sem, Nat.reduceLT, Nat.reduceAdd, Nat.reduceSub, Nat.reduceMul, Nat.reduceEqDiff, Nat.reduceBEq, Nat.reduceLeDiff, Int.reduceToNat, Int.reduceLT, Int.reduceLE, Int.reduceEq, reduceCtorEq, ↓reduceIte, X41_1, k41_1, b1]
  · replace h := br_t b1 h
    cases h
    simp -implicitDefEqProofs only [go_sem, Nat.reduceLT, Nat.reduceAdd, Nat.reduceSub, Nat.reduceMul, Nat.reduceEqDiff, Nat.reduceBEq, Nat.reduceLeDiff, Int.reduceToNat, Int.reduceLT, Int.reduceLE, Int.reduceEq, reduceCtorEq, ↓reduceIte, X41_1, k41_1, b1]
theorem e41 (a0 : Int) (a1 : Int) (a2 : Int) (r : Bool) (h : m41 a0 a1 a2 = some r) : evFL T 41 [.int .i64 a0, .int .i64 a1, .int .i64 a2] [] = some (.bool r, []) := by
  unfold m41 at h
  rw [evFL_at fn41 (Nat.le_of_ble_eq_true rfl) rfl (.inr rfl)]
  obtain ⟨v4, q2, h⟩ := bnd_some h
  have w3 := e41_1 a0 a1 a2 v4 q2
  simp only [X41_1] at w3
  try simp -implicitDefEqProofs only [go_sem, Nat.reduceLT, Nat.reduceAdd, Nat.reduceSub, Nat.reduceMul, Nat.reduceEqDiff, Nat.reduceBEq, Nat.reduceLeDiff, Int.reduceToNat, Int.reduceLT, Int.reduceLE, Int.reduceEq, reduceCtorEq, ↓reduceIte] at w3
  cases h
  simp -implicitDefEqProofs only [go_sem, Nat.reduceLT, Nat.reduceAdd, Nat.reduceSub, Nat.reduceMul, Nat.reduceEqDiff, Nat.reduceBEq, Nat.reduceLeDiff, Int.reduceToNat, Int.reduceLT, Int.reduceLE, Int.reduceEq, reduceCtorEq, ↓reduceIte, i41, c41, w3]
-- f70 slices.IndexFunc[[]impl.Rel,impl.Rel]
theorem call70 (args : List AV) (S : St) : evCall T (evFL T) 70 args S = lendC (evFL T 70) S (lendAll S [[3], [0]] args) := evCall0 fn70 rfl rfl args S
theorem callz70 (args : List AV) (S : St) : evCallFz T (evFL T) 70 args S = lendZ (evFL T 70) S [[0]] (lendAll S [[3], [0]] args) := evCallFz0 fn70 rfl rfl args S
attribute [go_sem] call70 callz70
noncomputable def X70_1 (a1_f : Nat) (a1_c : List AV) (a0 : (List Rel)) (p1 : Int) (a1 : (Rel → Option Bool)) (o : (Unit ⊕ Int)) : Ex × Fr × St :=
  match o with
  | .inl o => (.exit 0, frOf 19 (anyF), [])
  | .inr o => (.ret, frOf 19 (upd anyF 4 (.int .i64 o)), [])
noncomputable def E70_1 (a1_f : Nat) (a1_c : List AV) (a0 : (List Rel)) (p1 : Int) (a1 : (Rel → Option Bool)) (s : Int) : Fr × St := (frOf 19 (upd (upd (upd (upd anyF 0 (.ts .imm 3 (a0.map encRel))) 1 (.fn a1_f a1_c)) 7 (.int .i64 p1)) 8 (.int .i64 s)), [])
theorem b70_1 (a0 : (List Rel)) (p1 : Int) (a1 : (Rel → Option Bool)) (a1_f : Nat) (a1_c : List AV) (a1_h : ((∀ S, mapO (lendPtr S) a1_c = some a1_c) ∧ (∀ n0 src R tm t c, tdL n0 src R tm t c a1_c = some a1_c)) ∧ ∀ y0 r, a1 y0 = some r → (∀ S, evCall T (evFL T) a1_f ([.agg [.int .i64 y0.a, .int .i64 y0.b, .int .i64 y0.kind]] ++ a1_c) S = some (.bool r, S)) ∧ (∀ S, evCallFz T (evFL T) a1_f ([.agg [.int .i64 y0.a, .int .i64 y0.b, .int .i64 y0.kind]] ++ a1_c) S = some (.bool r, S))) (s : Int) (o : Ctl Int (Unit ⊕ Int)) (h : m70_1b a0 p1 a1 s = some o) : evCL T 0 k70_1b (E70_1 a1_f a1_c a0 p1 a1 s).1 (E70_1 a1_f a1_c a0 p1 a1 s).2 = some (ctlX (E70_1 a1_f a1_c a0 p1 a1) (X70_1 a1_f a1_c a0 p1 a1) o) := by
  unfold m70_1b at h
  revert h
  generalize s = s12
  intro h
  try simp -implicitDefEqProofs only [go_sem, Nat.reduceLT, Nat.reduceAdd, Nat.reduceSub, Nat.reduceMul, Nat.reduceEqDiff, Nat.reduceBEq, Nat.reduceLeDiff, Int.reduceToNat, Int.reduceLT, Int.reduceLE, Int.reduceEq, reduceCtorEq, ↓reduceIte, E70_1, X70_1, k70_1b, a1_h.1]
  cases b13 : (ltI s12 p1 : Bool)
  · replace h := br_f b13 h
    cases h
    simp -implicitDefEqProofs only [go_sem, Nat.reduceLT, Nat.reduceAdd, Nat.reduceSub, Nat.reduceMul, Nat.reduceEqDiff, Nat.reduceBEq, Nat.reduceLeDiff, Int.reduceToNat, Int.reduceLT, Int.reduceLE, Int.reduceEq, reduceCtorEq, ↓reduceIte, E70_1, X70_1, k70_1b, a1_h.1, b13]
  · replace h := br_t b13 h
    obtain ⟨x14, q15, h⟩ := bnd_some h
    obtain ⟨g16, g17, g18⟩ := idx_row encRel q15
    try simp -implicitDefEqProofs only [go_sem, Nat.reduceLT, Nat.reduceAdd, Nat.reduceSub, Nat.reduceMul, Nat.reduceEqDiff, Nat.reduceBEq, Nat.reduceLeDiff, Int.reduceToNat, Int.reduceLT, Int.reduceLE, Int.reduceEq, reduceCtorEq, ↓reduceIte] at g17
    try simp -implicitDefEqProofs only [go_sem, Nat.reduceLT, Nat.reduceAdd, Nat.reduceSub, Nat.reduceMul, Nat.reduceEqDiff, Nat.reduceBEq, Nat.reduceLeDiff, Int.reduceToNat, Int.reduceLT, Int.reduceLE, Int.reduceEq, reduceCtorEq, ↓reduceIte] at g18
    obtain ⟨r19, q20, h⟩ := bnd_some h
    have w21 := a1_h.2 x14 r19 q20
    try simp -implicitDefEqProofs only [go_sem, Nat.reduceLT, Nat.reduceAdd, Nat.reduceSub, Nat.reduceMul, Nat.reduceEqDiff, Nat.reduceBEq, Nat.reduceLeDiff, Int.reduceToNat, Int.reduceLT, Int.reduceLE, Int.reduceEq, reduceCtorEq, ↓reduceIte] at w21
    try simp -implicitDefEqProofs only [go_sem, Nat.reduceLT, Nat.reduceAdd, Nat.reduceSub, Nat.reduceMul, Nat.reduceEqDiff, Nat.reduceBEq, Nat.reduceLeDiff, Int.reduceToNat, Int.reduceLT, Int.reduceLE, Int.reduceEq, reduceCtorEq, ↓reduceIte, E70_1, X70_1, k70_1b, a1_h.1, b13, g16, g17, g18, w21.1, w21.2]
    cases b22 : (r19 : Bool)
    · replace h := br_f b22 h
      cases h
      simp -implicitDefEqProofs only [go_sem, Nat.reduceLT, Nat.reduceAdd, Nat.reduceSub, Nat.reduceMul, Nat.reduceEqDiff, Nat.reduceBEq, Nat.reduceLeDiff, Int.reduceToNat, Int.reduceLT, Int.reduceLE, Int.reduceEq, reduceCtorEq, ↓reduceIte, E70_1, X70_1, k70_1b, a1_h.1, b13, g16, g17, g18, w21.1, w21.2, b22]
    · replace h := br_t b22 h
      cases h
      simp -implicitDefEqProofs only [go_sem, Nat.reduceLT, Nat.reduceAdd, Nat.reduceSub, Nat.reduceMul, Nat.reduceEqDiff, Nat.reduceBEq, Nat.reduceLeDiff, Int.reduceToNat, Int.reduceLT, Int.reduceLE, Int.reduceEq, reduceCtorEq, ↓reduceIte, E70_1, X70_1, k70_1b, a1_h.1, b13, g16, g17, g18, w21.1, w21.2, b22]
theorem e70_1 (a0 : (List Rel)) (p1 : Int) (a1 : (Rel → Option Bool)) (a1_f : Nat) (a1_c : List AV) (a1_h : ((∀ S, mapO (lendPtr S) a1_c = some a1_c) ∧ (∀ n0 src R tm t c, tdL n0 src R tm t c a1_c = some a1_c)) ∧ ∀ y0 r, a1 y0 = some r → (∀ S, evCall T (evFL T) a1_f ([.agg [.int .i64 y0.a, .int .i64 y0.b, .int .i64 y0.kind]] ++ a1_c) S = some (.bool r, S)) ∧ (∀ S, evCallFz T (evFL T) a1_f ([.agg [.int .i64 y0.a, .int .i64 y0.b, .int .i64 y0.kind]] ++ a1_c) S = some (.bool r, S))) (s : Int) (o : (Unit ⊕ Int)) (h : loopP (m70_1b a0 p1 a1) s = some o) : evCL T 0 (.loop k70_1b) (E70_1 a1_f a1_c a0 p1 a1 s).1 (E70_1 a1_f a1_c a0 p1 a1 s).2 = some (X70_1 a1_f a1_c a0 p1 a1 o) :=
  loop_walk (E := E70_1 a1_f a1_c a0 p1 a1) (X := X70_1 a1_f a1_c a0 p1 a1) (by intro b; rcases b with b | b <;> (simp only [X70_1]; nofun)) (b70_1 a0 p1 a1 a1_f a1_c a1_h) s o h
theorem e70 (a0 : (List Rel)) (a1 : (Rel → Option Bool)) (a1_f : Nat) (a1_c : List AV) (a1_h : ((∀ S, mapO (lendPtr S) a1_c = some a1_c) ∧ (∀ n0 src R tm t c, tdL n0 src R tm t c a1_c = some a1_c)) ∧ ∀ y0 r, a1 y0 = some r → (∀ S, evCall T (evFL T) a1_f ([.agg [.int .i64 y0.a, .int .i64 y0.b, .int .i64 y0.kind]] ++ a1_c) S = some (.bool r, S)) ∧ (∀ S, evCallFz T (evFL T) a1_f ([.agg [.int .i64 y0.a, .int .i64 y0.b, .int .i64 y0.kind]] ++ a1_c) S = some (.bool r, S))) (r : Int) (h : m70 a0 a1 = some r) : evFL T 70 [.ts .imm 3 (a0.map encRel), .fn a1_f a1_c] [] = some (.int .i64 r, []) := by
  unfold m70 at h
  rw [evFL_at fn70 (Nat.le_of_ble_eq_true rfl) rfl (.inr rfl)]
  try simp -implicitDefEqProofs only [go_sem, Nat.reduceLT, Nat.reduceAdd, Nat.reduceSub, Nat.reduceMul, Nat.reduceEqDiff, Nat.reduceBEq, Nat.reduceLeDiff, Int.reduceToNat, Int.reduceLT, Int.reduceLE, Int.reduceEq, reduceCtorEq, ↓reduceIte, i70, c70, a1_h.1]
  obtain ⟨o, q23, h⟩ := bnd_some h
  rcases o with ⟨⟩ | v25
  · replace h := selS_l h
    have w24 := e70_1 a0 (↑a0.length : Int) a1 a1_f a1_c a1_h 0 (.inl ()) q23
    simp only [E70_1, X70_1] at w24
    try simp -implicitDefEqProofs only [go_sem, Nat.reduceLT, Nat.reduceAdd, Nat.reduceSub, Nat.reduceMul, Nat.reduceEqDiff, Nat.reduceBEq, Nat.reduceLeDiff, Int.reduceToNat, Int.reduceLT, Int.reduceLE, Int.reduceEq, reduceCtorEq, ↓reduceIte] at w24
    cases h
    simp -implicitDefEqProofs only [go_sem, Nat.reduceLT, Nat.reduceAdd, Nat.reduceSub, Nat.reduceMul, Nat.reduceEqDiff, Nat.reduceBEq, Nat.reduceLeDiff, Int.reduceToNat, Int.reduceLT, Int.reduceLE, Int.reduceEq, reduceCtorEq, ↓reduceIte, i70, c70, a1_h.1, w24]
  · replace h := selS_r h
    have w24 := e70_1 a0 (↑a0.length : Int) a1 a1_f a1_c a1_h 0 (.inr v25) q23
    simp only [E70_1, X70_1] at w24
    try simp -implicitDefEqProofs only [go_sem, Nat.reduceLT, Nat.reduceAdd, Nat.reduceSub, Nat.reduceMul, Nat.reduceEqDiff, Nat.reduceBEq, Nat.reduceLeDiff, Int.reduceToNat, Int.reduceLT, Int.reduceLE, Int.reduceEq, reduceCtorEq, ↓reduceIte] at w24
    cases h
    simp -implicitDefEqProofs only [go_sem, Nat.reduceLT, Nat.reduceAdd, Nat.reduceSub, Nat.reduceMul, Nat.reduceEqDiff, Nat.reduceBEq, Nat.reduceLeDiff, Int.reduceToNat, Int.reduceLT, Int.reduceLE, Int.reduceEq, reduceCtorEq, ↓reduceIte, i70, c70, a1_h.1, w24]
-- f42 slices.ContainsFunc[[]impl.Rel,impl.Rel]
theorem call42 (args : List AV) (S : St) : evCall T (evFL T) 42 args S = lendC (evFL T 42) S (lendAll S [[3], [0]] args) := evCall0 fn42 rfl rfl args S
theorem callz42 (args : List AV) (S : St) : evCallFz T (evFL T) 42 args S = lendZ (evFL T 42) S [[0]] (lendAll S [[3], [0]] args) := evCallFz0 fn42 rfl rfl args S
attribute [go_sem] call42 callz42
theorem e42 (a0 : (List Rel)) (a1 : (Rel → Option Bool)) (a1_f : Nat) (a1_c : List AV) (a1_h : ((∀ S, mapO (lendPtr S) a1_c = some a1_c) ∧ (∀ n0 src R tm t c, tdL n0 src R tm t c a1_c = some a1_c)) ∧ ∀ y0 r, a1 y0 = some r → (∀ S, evCall T (evFL T) a1_f ([.agg [.int .i64 y0.a, .int .i64 y0.b, .int .i64 y0.kind]] ++ a1_c) S = some (.bool r, S)) ∧ (∀ S, evCallFz T (evFL T) a1_f ([.agg [.int .i64 y0.a, .int .i64 y0.b, .int .i64 y0.kind]] ++ a1_c) S = some (.bool r, S))) (r : Bool) (h : m42 a0 a1 = some r) : evFL T 42 [.ts .imm 3 (a0.map encRel), .fn a1_f a1_c] [] = some (.bool r, []) := by
  unfold m42 at h
  rw [evFL_at fn42 (Nat.le_of_ble_eq_true rfl) rfl (.inr rfl)]
  obtain ⟨r3, q1, h⟩ := bnd_some h
  have w2 := e70 a0 a1 a1_f a1_c a1_h r3 q1
  try simp -implicitDefEqProofs only [go_sem, Nat.reduceLT, Nat.reduceAdd, Nat.reduceSub, Nat.reduceMul, Nat.reduceEqDiff, Nat.reduceBEq, Nat.reduceLeDiff, Int.reduceToNat, Int.reduceLT, Int.reduceLE, Int.reduceEq, reduceCtorEq, ↓reduceIte] at w2
  cases h
  simp -implicitDefEqProofs only [go_sem, Nat.reduceLT, Nat.reduceAdd, Nat.reduceSub, Nat.reduceMul, Nat.reduceEqDiff, Nat.reduceBEq, Nat.reduceLeDiff, Int.reduceToNat, Int.reduceLT, Int.reduceLE, Int.reduceEq, reduceCtorEq, ↓reduceIte, i42, c42, a1_h.1, w2]
-- f43 impl.GoodRels$1
theorem call43 (args : List AV) (S : St) : evCall T (evFL T) 43 args S = lendC (evFL T 43) S (lendAll S [[0, 0, 0], [0]] args) := evCall0 fn43 rfl rfl args S
theorem callz43 (args : List AV) (S : St) : evCallFz T (evFL T) 43 args S = lendZ (evFL T 43) S [[0]] (lendAll S [[0, 0, 0], [0]] args) := evCallFz0 fn43 rfl rfl args S
attribute [go_sem] call43 callz43
noncomputable def X43_1 (a1 : Rel) (a0 : Rel) (o : Bool) : Ex × Fr × St :=
  (.normal, frOf 16 (upd anyF 3 (.bool o)), [])
theorem e43_1 (a1 : Rel) (a0 : Rel) (o : Bool) (h : m43_1 a1 a0 = some o) : evCL T 0 k43_1 (frOf 16 (upd (upd anyF 1 (.tp .imm 3 [[.int .i64 a1.a, .int .i64 a1.b, .int .i64 a1.kind]] 0 0)) 2 (.ptr 0 0 0))) [some ⟨.box, 3, [[.int .i64 a0.a, .int .i64 a0.b, .int .i64 a0.kind]]⟩] = some (X43_1 a1 a0 o) := by
  unfold m43_1 at h
  try simp -implicitDefEqProofs only [go_sem, Nat.reduceLT, Nat.reduceAdd, Nat.reduceSub, Nat.reduceMul, Nat.reduceEqDiff, Nat.reduceBEq, Nat.reduceLeDiff, Int.reduceToNat, Int.reduceLT, Int.reduceLE, Int.reduceEq, reduceCtorEq, ↓reduceIte, X43_1, k43_1]
  cases b1 : (eqI a1.a a0.a : Bool)
  · replace h := br_f b1 h
    cases h
    simp -implicitDefEqProofs only [go_sem, Nat.reduceLT, Nat.reduceAdd, Nat.reduceSub, Nat.reduceMul, Nat.reduceEqDiff, Nat.reduceBEq, Nat.reduceLeDiff, Int.reduceToNat, Int.reduceLT, Int.reduceLE, Int.reduceEq, reduceCtorEq, ↓reduceIte, X43_1, k43_1, b1]
  · replace h := br_t b1 h
    cases h
    simp -implicitDefEqProofs only [go_sem, Nat.reduceLT, Nat.reduceAdd, Nat.reduceSub, Nat.reduceMul, Nat.reduceEqDiff, Nat.reduceBEq, Nat.reduceLeDiff, Int.reduceToNat, Int.reduceLT, Int.reduceLE, Int.reduceEq, reduceCtorEq, ↓reduceIte, X43_1, k43_1, b1]
theorem e43 (a0 : Rel) (a1 : Rel) (r : Bool) (h : m43 a0 a1 = some r) : evFL T 43 [.agg [.int .i64 a0.a, .int .i64 a0.b, .int .i64 a0.kind], .tp .imm 3 [[.int .i64 a1.a, .int .i64 a1.b, .int .i64 a1.kind]] 0 0] [] = some (.bool r, []) := by
  unfold m43 at h
  rw [evFL_at fn43 (Nat.le_of_ble_eq_true rfl) rfl (.inr rfl)]
  obtain ⟨v4, q2, h⟩ := bnd_some h
  have w3 := e43_1 a1 a0 v4 q2
  simp only [X43_1] at w3
  try simp -implicitDefEqProofs only [go_sem, Nat.reduceLT, Nat.reduceAdd, Nat.reduceSub, Nat.reduceMul, Nat.reduceEqDiff, Nat.reduceBEq, Nat.reduceLeDiff, Int.reduceToNat, Int.reduceLT, Int.reduceLE, Int.reduceEq, reduceCtorEq, ↓reduceIte] at w3
  cases h
  simp -implicitDefEqProofs only [go_sem, Nat.reduceLT, Nat.reduceAdd, Nat.reduceSub, Nat.reduceMul, Nat.reduceEqDiff, Nat.reduceBEq, Nat.reduceLeDiff, Int.reduceToNat, Int.reduceLT, Int.reduceLE, Int.reduceEq, reduceCtorEq, ↓reduceIte, i43, c43, w3]
-- f14 impl.GoodRels
theorem call14 (args : List AV) (S : St) : evCall T (evFL T) 14 args S = lendC (evFL T 14) S (lendAll S [[0], [3]] args) := evCall0 fn14 rfl rfl args S
theorem callz14 (args : List AV) (S : St) : evCallFz T (evFL T) 14 args S = lendZ (evFL T 14) S [[0]] (lendAll S [[0], [3]] args) := evCallFz0 fn14 rfl rfl args S
attribute [go_sem] call14 callz14
noncomputable def X14_1 (a0 : Int) (a1 : (List Rel)) (o : Bool) : Ex × Fr × St :=
  (.normal, frOf 50 (upd (upd (upd anyF 0 (.int .i64 a0)) 1 (.ts .imm 3 (a1.map encRel))) 14 (.bool o)), [])
theorem e14_1 (a0 : Int) (a1 : (List Rel)) (o : Bool) (h : m14_1 a0 a1 = some o) : evCL T 0 k14_1 (frOf 50 (upd (upd anyF 0 (.int .i64 a0)) 1 (.ts .imm 3 (a1.map encRel)))) [] = some (X14_1 a0 a1 o) := by
  unfold m14_1 at h
  obtain ⟨r3, q1, h⟩ := bnd_some h
  have w2 := e41 a0 1 5 r3 q1
  try simp -implicitDefEqProofs only [go_sem, Nat.reduceLT, Nat.reduceAdd, Nat.reduceSub, Nat.reduceMul, Nat.reduceEqDiff, Nat.reduceBEq, Nat.reduceLeDiff, Int.reduceToNat, Int.reduceLT, Int.reduceLE, Int.reduceEq, reduceCtorEq, ↓reduceIte] at w2
  try simp -implicitDefEqProofs only [go_sem, Nat.reduceLT, Nat.reduceAdd, Nat.reduceSub, Nat.reduceMul, Nat.reduceEqDiff, Nat.reduceBEq, Nat.reduceLeDiff, Int.reduceToNat, Int.reduceLT, Int.reduceLE, Int.reduceEq, reduceCtorEq, ↓reduceIte, X14_1, k14_1, w2]
  cases b4 : (r3 : Bool)
  · replace h := br_f b4 h
    cases h
    simp -implicitDefEqProofs only [go_sem, Nat.reduceLT, Nat.reduceAdd, Nat.reduceSub, Nat.reduceMul, Nat.reduceEqDiff, Nat.reduceBEq, Nat.reduceLeDiff, Int.reduceToNat, Int.reduceLT, Int.reduceLE, Int.reduceEq, reduceCtorEq, ↓reduceIte, X14_1, k14_1, w2, b4]
  · replace h := br_t b4 h
    cases h
    simp -implicitDefEqProofs only [go_sem, Nat.reduceLT, Nat.reduceAdd, Nat.reduceSub, Nat.reduceMul, Nat.reduceEqDiff, Nat.reduceBEq, Nat.reduceLeDiff, Int.reduceToNat, Int.reduceLT, Int.reduceLE, Int.reduceEq, reduceCtorEq, ↓reduceIte, X14_1, k14_1, w2, b4]
noncomputable def X14_4 (a0 : Int) (a1 : (List Rel)) (s36 : Int) (p9 : Int) (x38 : Rel) (o : Bool) : Ex × Fr × St :=
  (.normal, frOf 50 (upd (upd (upd (upd (upd (upd anyF 0 (.int .i64 a0)) 1 (.ts .imm 3 (a1.map encRel))) 15 (.ts .imm 3 (a1.map encRel))) 16 (.int .i64 p9)) 17 (.int .i64 s36)) 48 (.bool o)), [])
theorem e14_4 (a0 : Int) (a1 : (List Rel)) (s36 : Int) (p9 : Int) (x38 : Rel) (o : Bool) (h : m14_4 a0 a1 s36 x38 = some o) : evCL T 0 k14_4 (frOf 50 (upd (upd (upd (upd (upd (upd (upd anyF 0 (.int .i64 a0)) 1 (.ts .imm 3 (a1.map encRel))) 5 (.int .i64 s36)) 6 (.ptr 0 0 0)) 15 (.ts .imm 3 (a1.map encRel))) 16 (.int .i64 p9)) 17 (.int .i64 s36))) [some ⟨.box, 3, [[.int .i64 x38.a, .int .i64 x38.b, .int .i64 x38.kind]]⟩] = some (X14_4 a0 a1 s36 p9 x38 o) := by
  unfold m14_4 at h
  obtain ⟨r45, q43, h⟩ := bnd_some h
  have w44 := e41 x38.b 1 a0 r45 q43
  try simp -implicitDefEqProofs only [go_sem, Nat.reduceLT, Nat.reduceAdd, Nat.reduceSub, Nat.reduceMul, Nat.reduceEqDiff, Nat.reduceBEq, Nat.reduceLeDiff, Int.reduceToNat, Int.reduceLT, Int.reduceLE, Int.reduceEq, reduceCtorEq, ↓reduceIte] at w44
  try simp -implicitDefEqProofs only [go_sem, Nat.reduceLT, Nat.reduceAdd, Nat.reduceSub, Nat.reduceMul, Nat.reduceEqDiff, Nat.reduceBEq, Nat.reduceLeDiff, Int.reduceToNat, Int.reduceLT, Int.reduceLE, Int.reduceEq, reduceCtorEq, ↓reduceIte, X14_4, k14_4, w44]
  cases b46 : (r45 : Bool)
  · replace h := br_f b46 h
    cases h
    simp -implicitDefEqProofs only [go_sem, Nat.reduceLT, Nat.reduceAdd, Nat.reduceSub, Nat.reduceMul, Nat.reduceEqDiff, Nat.reduceBEq, Nat.reduceLeDiff, Int.reduceToNat, Int.reduceLT, Int.reduceLE, Int.reduceEq, reduceCtorEq, ↓reduceIte, X14_4, k14_4, w44, b46]
  · replace h := br_t b46 h
    obtain ⟨r49, q47, h⟩ := bnd_some h
    have w48 := e41 x38.a 0 (wsub .i64 x38.b 1) r49 q47
    try simp -implicitDefEqProofs only [go_sem, Nat.reduceLT, Nat.reduceAdd, Nat.reduceSub, Nat.reduceMul, Nat.reduceEqDiff, Nat.reduceBEq, Nat.reduceLeDiff, Int.reduceToNat, Int.reduceLT, Int.reduceLE, Int.reduceEq, reduceCtorEq, ↓reduceIte] at w48
    try simp -implicitDefEqProofs only [go_sem, Nat.reduceLT, Nat.reduceAdd, Nat.reduceSub, Nat.reduceMul, Nat.reduceEqDiff, Nat.reduceBEq, Nat.reduceLeDiff, Int.reduceToNat, Int.reduceLT, Int.reduceLE, Int.reduceEq, reduceCtorEq, ↓reduceIte, X14_4, k14_4, w44, b46, w48]
    cases b50 : (r49 : Bool)
    · replace h := br_f b50 h
      cases h
      simp -implicitDefEqProofs only [go_sem, Nat.reduceLT, Nat.reduceAdd, Nat.reduceSub, Nat.reduceMul, Nat.reduceEqDiff, Nat.reduceBEq, Nat.reduceLeDiff, Int.reduceToNat, Int.reduceLT, Int.reduceLE, Int.reduceEq, reduceCtorEq, ↓reduceIte, X14_4, k14_4, w44, b46, w48, b50]
    · replace h := br_t b50 h
      obtain ⟨r53, q51, h⟩ := bnd_some h
      have w52 := e41 x38.kind 1 3 r53 q51
      try simp -implicitDefEqProofs only [go_sem, Nat.reduceLT, Nat.reduceAdd, Nat.reduceSub, Nat.reduceMul, Nat.reduceEqDiff, Nat.reduceBEq, Nat.reduceLeDiff, Int.reduceToNat, Int.reduceLT, Int.reduceLE, Int.reduceEq, reduceCtorEq, ↓reduceIte] at w52
      try simp -implicitDefEqProofs only [go_sem, Nat.reduceLT, Nat.reduceAdd, Nat.reduceSub, Nat.reduceMul, Nat.reduceEqDiff, Nat.reduceBEq, Nat.reduceLeDiff, Int.reduceToNat, Int.reduceLT, Int.reduceLE, Int.reduceEq, reduceCtorEq, ↓reduceIte, X14_4, k14_4, w44, b46, w48, b50, w52]
      cases b54 : (r53 : Bool)
      · replace h := br_f b54 h
        cases h
        simp -implicitDefEqProofs only [go_sem, Nat.reduceLT, Nat.reduceAdd, Nat.reduceSub, Nat.reduceMul, Nat.reduceEqDiff, Nat.reduceBEq, Nat.reduceLeDiff, Int.reduceToNat, Int.reduceLT, Int.reduceLE, Int.reduceEq, reduceCtorEq, ↓reduceIte, X14_4, k14_4, w44, b46, w48, b50, w52, b54]
      · replace h := br_t b54 h
        obtain ⟨g55, h⟩ := ck_some h
        try simp -implicitDefEqProofs only [go_sem, Nat.reduceLT, Nat.reduceAdd, Nat.reduceSub, Nat.reduceMul, Nat.reduceEqDiff, Nat.reduceBEq, Nat.reduceLeDiff, Int.reduceToNat, Int.reduceLT, Int.reduceLE, Int.reduceEq, reduceCtorEq, ↓reduceIte] at g55
        obtain ⟨r58, q56, h⟩ := bnd_some h
        have w57 := e42 (a1.take s36.toNat) (fun y0 => m43 y0 x38) 43 [.tp .imm 3 [[.int .i64 x38.a, .int .i64 x38.b, .int .i64 x38.kind]] 0 0] ⟨⟨fun S => by simp -implicitDefEqProofs only [go_sem, Nat.reduceLT, Nat.reduceAdd, Nat.reduceSub, Nat.reduceMul, Nat.reduceEqDiff, Nat.reduceBEq, Nat.reduceLeDiff, Int.reduceToNat, Int.reduceLT, Int.reduceLE, Int.reduceEq, reduceCtorEq, ↓reduceIte], fun _ _ _ _ _ _ => by simp -implicitDefEqProofs only [go_sem, Nat.reduceLT, Nat.reduceAdd, Nat.reduceSub, Nat.reduceMul, Nat.reduceEqDiff, Nat.reduceBEq, Nat.reduceLeDiff, Int.reduceToNat, Int.reduceLT, Int.reduceLE, Int.reduceEq, reduceCtorEq, ↓reduceIte]⟩, fun y0 r h => ⟨fun S => by simp -implicitDefEqProofs only [go_sem, Nat.reduceLT, Nat.reduceAdd, Nat.reduceSub, Nat.reduceMul, Nat.reduceEqDiff, Nat.reduceBEq, Nat.reduceLeDiff, Int.reduceToNat, Int.reduceLT, Int.reduceLE, Int.reduceEq, reduceCtorEq, ↓reduceIte, e43 y0 x38 r h], fun S => by simp -implicitDefEqProofs only [go_sem, Nat.reduceLT, Nat.reduceAdd, Nat.reduceSub, Nat.reduceMul, Nat.reduceEqDiff, Nat.reduceBEq, Nat.reduceLeDiff, Int.reduceToNat, Int.reduceLT, Int.reduceLE, Int.reduceEq, reduceCtorEq, ↓reduceIte, e43 y0 x38 r h]⟩⟩ r58 q56
        try simp -implicitDefEqProofs only [go_sem, Nat.reduceLT, Nat.reduceAdd, Nat.reduceSub, Nat.reduceMul, Nat.reduceEqDiff, Nat.reduceBEq, Nat.reduceLeDiff, Int.reduceToNat, Int.reduceLT, Int.reduceLE, Int.reduceEq, reduceCtorEq, ↓reduceIte] at w57
        cases h
        simp -implicitDefEqProofs only [go_sem, Nat.reduceLT, Nat.reduceAdd, Nat.reduceSub, Nat.reduceMul, Nat.reduceEqDiff, Nat.reduceBEq, Nat.reduceLeDiff, Int.reduceToNat, Int.reduceLT, Int.reduceLE, Int.reduceEq, reduceCtorEq, ↓reduceIte, X14_4, k14_4, w44, b46, w48, b50, w52, b54, g55, w57]
noncomputable def X14_2 (a0 : Int) (a1 : (List Rel)) (p9 : Int) (o : (Unit ⊕ Unit)) : Ex × Fr × St :=
  match o with
  | .inl o => (.exit 0, frOf 50 (anyF), [])
  | .inr o => (.ret, frOf 50 (upd anyF 4 (.bool false)), [])
noncomputable def E14_2 (a0 : Int) (a1 : (List Rel)) (p9 : Int) (s : Int) : Fr × St := (frOf 50 (upd (upd (upd (upd (upd anyF 0 (.int .i64 a0)) 1 (.ts .imm 3 (a1.map encRel))) 15 (.ts .imm 3 (a1.map encRel))) 16 (.int .i64 p9)) 17 (.int .i64 s)), [])
theorem b14_2 (a0 : Int) (a1 : (List Rel)) (p9 : Int) (s : Int) (o : Ctl Int (Unit ⊕ Unit)) (h : m14_2b a0 a1 p9 s = some o) : evCL T 0 k14_2b (E14_2 a0 a1 p9 s).1 (E14_2 a0 a1 p9 s).2 = some (ctlX (E14_2 a0 a1 p9) (X14_2 a0 a1 p9) o) := by
  unfold m14_2b at h
  revert h
  generalize s = s36
  intro h
  try simp -implicitDefEqProofs only [go_sem, Nat.reduceLT, Nat.reduceAdd, Nat.reduceSub, Nat.reduceMul, Nat.reduceEqDiff, Nat.reduceBEq, Nat.reduceLeDiff, Int.reduceToNat, Int.reduceLT, Int.reduceLE, Int.reduceEq, reduceCtorEq, ↓reduceIte, E14_2, X14_2, k14_2b]
  cases b37 : (ltI s36 p9 : Bool)
  · replace h := br_f b37 h
    cases h
    simp -implicitDefEqProofs only [go_sem, Nat.reduceLT, Nat.reduceAdd, Nat.reduceSub, Nat.reduceMul, Nat.reduceEqDiff, Nat.reduceBEq, Nat.reduceLeDiff, Int.reduceToNat, Int.reduceLT, Int.reduceLE, Int.reduceEq, reduceCtorEq, ↓reduceIte, E14_2, X14_2, k14_2b, b37]
  · replace h := br_t b37 h
    obtain ⟨x38, q39, h⟩ := bnd_some h
    obtain ⟨g40, g41, g42⟩ := idx_row encRel q39
    try simp -implicitDefEqProofs only [go_sem, Nat.reduceLT, Nat.reduceAdd, Nat.reduceSub, Nat.reduceMul, Nat.reduceEqDiff, Nat.reduceBEq, Nat.reduceLeDiff, Int.reduceToNat, Int.reduceLT, Int.reduceLE, Int.reduceEq, reduceCtorEq, ↓reduceIte] at g41
    try simp -implicitDefEqProofs only [go_sem, Nat.reduceLT, Nat.reduceAdd, Nat.reduceSub, Nat.reduceMul, Nat.reduceEqDiff, Nat.reduceBEq, Nat.reduceLeDiff, Int.reduceToNat, Int.reduceLT, Int.reduceLE, Int.reduceEq, reduceCtorEq, ↓reduceIte] at g42
    obtain ⟨v61, q59, h⟩ := bnd_some h
    have w60 := e14_4 a0 a1 s36 p9 x38 v61 q59
    simp only [X14_4] at w60
    try simp -implicitDefEqProofs only [go_sem, Nat.reduceLT, Nat.reduceAdd, Nat.reduceSub, Nat.reduceMul, Nat.reduceEqDiff, Nat.reduceBEq, Nat.reduceLeDiff, Int.reduceToNat, Int.reduceLT, Int.reduceLE, Int.reduceEq, reduceCtorEq, ↓reduceIte] at w60
    try simp -implicitDefEqProofs only [go_sem, Nat.reduceLT, Nat.reduceAdd, Nat.reduceSub, Nat.reduceMul, Nat.reduceEqDiff, Nat.reduceBEq, Nat.reduceLeDiff, Int.reduceToNat, Int.reduceLT, Int.reduceLE, Int.reduceEq, reduceCtorEq, ↓reduceIte, E14_2, X14_2, k14_2b, b37, g40, g41, g42, w60]
    cases b62 : (v61 : Bool)
    · replace h := br_f b62 h
      cases h
      simp -implicitDefEqProofs only [go_sem, Nat.reduceLT, Nat.reduceAdd, Nat.reduceSub, Nat.reduceMul, Nat.reduceEqDiff, Nat.reduceBEq, Nat.reduceLeDiff, Int.reduceToNat, Int.reduceLT, Int.reduceLE, Int.reduceEq, reduceCtorEq, ↓reduceIte, E14_2, X14_2, k14_2b, b37, g40, g41, g42, w60, b62]
    · replace h := br_t b62 h
      cases h
      simp -implicitDefEqProofs only [go_sem, Nat.reduceLT, Nat.reduceAdd, Nat.reduceSub, Nat.reduceMul, Nat.reduceEqDiff, Nat.reduceBEq, Nat.reduceLeDiff, Int.reduceToNat, Int.reduceLT, Int.reduceLE, Int.reduceEq, reduceCtorEq, ↓reduceIte, E14_2, X14_2, k14_2b, b37, g40, g41, g42, w60, b62]
theorem e14_2 (a0 : Int) (a1 : (List Rel)) (p9 : Int) (s : Int) (o : (Unit ⊕ Unit)) (h : loopP (m14_2b a0 a1 p9) s = some o) : evCL T 0 (.loop k14_2b) (E14_2 a0 a1 p9 s).1 (E14_2 a0 a1 p9 s).2 = some (X14_2 a0 a1 p9 o) :=
  loop_walk (E := E14_2 a0 a1 p9) (X := X14_2 a0 a1 p9) (by intro b; rcases b with b | b <;> (simp only [X14_2]; nofun)) (b14_2 a0 a1 p9) s o h
theorem e14 (a0 : Int) (a1 : (List Rel)) (r : Bool) (h : m14 a0 a1 = some r) : evFL T 14 [.int .i64 a0, .ts .imm 3 (a1.map encRel)] [] = some (.bool r, []) := by
  unfold m14 at h
  rw [evFL_at fn14 (Nat.le_of_ble_eq_true rfl) rfl (.inr rfl)]
  obtain ⟨v7, q5, h⟩ := bnd_some h
  have w6 := e14_1 a0 a1 v7 q5
  simp only [X14_1] at w6
  try simp -implicitDefEqProofs only [go_sem, Nat.reduceLT, Nat.reduceAdd, Nat.reduceSub, Nat.reduceMul, Nat.reduceEqDiff, Nat.reduceBEq, Nat.reduceLeDiff, Int.reduceToNat, Int.reduceLT, Int.reduceLE, Int.reduceEq, reduceCtorEq, ↓reduceIte] at w6
  try simp -implicitDefEqProofs only [go_sem, Nat.reduceLT, Nat.reduceAdd, Nat.reduceSub, Nat.reduceMul, Nat.reduceEqDiff, Nat.reduceBEq, Nat.reduceLeDiff, Int.reduceToNat, Int.reduceLT, Int.reduceLE, Int.reduceEq, reduceCtorEq, ↓reduceIte, i14, c14, w6]
  cases b8 : (v7 : Bool)
  · replace h := br_f b8 h
    try simp -implicitDefEqProofs only [go_sem, Nat.reduceLT, Nat.reduceAdd, Nat.reduceSub, Nat.reduceMul, Nat.reduceEqDiff, Nat.reduceBEq, Nat.reduceLeDiff, Int.reduceToNat, Int.reduceLT, Int.reduceLE, Int.reduceEq, reduceCtorEq, ↓reduceIte, i14, c14, w6, b8]
    obtain ⟨o, q63, h⟩ := bnd_some h
    rcases o with ⟨⟩ | ⟨⟩
    · replace h := selS_l h
      have w64 := e14_2 a0 a1 (↑a1.length : Int) 0 (.inl ()) q63
      simp only [E14_2, X14_2] at w64
      try simp -implicitDefEqProofs only [go_sem, Nat.reduceLT, Nat.reduceAdd, Nat.reduceSub, Nat.reduceMul, Nat.reduceEqDiff, Nat.reduceBEq, Nat.reduceLeDiff, Int.reduceToNat, Int.reduceLT, Int.reduceLE, Int.reduceEq, reduceCtorEq, ↓reduceIte] at w64
      cases h
      simp -implicitDefEqProofs only [go_sem, Nat.reduceLT, Nat.reduceAdd, Nat.reduceSub, Nat.reduceMul, Nat.reduceEqDiff, Nat.reduceBEq, Nat.reduceLeDiff, Int.reduceToNat, Int.reduceLT, Int.reduceLE, Int.reduceEq, reduceCtorEq, ↓reduceIte, i14, c14, w6, b8, w64]
    · replace h := selS_r h
      have w64 := e14_2 a0 a1 (↑a1.length : Int) 0 (.inr ()) q63
      simp only [E14_2, X14_2] at w64
      try simp -implicitDefEqProofs only [go_sem, Nat.reduceLT, Nat.reduceAdd, Nat.reduceSub, Nat.reduceMul, Nat.reduceEqDiff, Nat.reduceBEq, Nat.reduceLeDiff, Int.reduceToNat, Int.reduceLT, Int.reduceLE, Int.reduceEq, reduceCtorEq, ↓reduceIte] at w64
      cases h
      simp -implicitDefEqProofs only [go_sem, Nat.reduceLT, Nat.reduceAdd, Nat.reduceSub, Nat.reduceMul, Nat.reduceEqDiff, Nat.reduceBEq, Nat.reduceLeDiff, Int.reduceToNat, Int.reduceLT, Int.reduceLE, Int.reduceEq, reduceCtorEq, ↓reduceIte, i14, c14, w6, b8, w64]
  · replace h := br_t b8 h
    cases h
    simp -implicitDefEqProofs only [go_sem, Nat.reduceLT, Nat.reduceAdd, Nat.reduceSub, Nat.reduceMul, Nat.reduceEqDiff, Nat.reduceBEq, Nat.reduceLeDiff, Int.reduceToNat, Int.reduceLT, Int.reduceLE, Int.reduceEq, reduceCtorEq, ↓reduceIte, i14, c14, w6, b8]
-- f49 slices.Clone[[]int,int]
theorem call49 (args : List AV) (S : St) : evCall T (evFL T) 49 args S = lendC (evFL T 49) S (lendAll S [[1]] args) := evCall0 fn49 rfl rfl args S
theorem callz49 (args : List AV) (S : St) : evCallFz T (evFL T) 49 args S = lendZ (evFL T 49) S [[1]] (lendAll S [[1]] args) := evCallFz0 fn49 rfl rfl args S
attribute [go_sem] call49 callz49
theorem e49 (a0 : (List Int)) (r : (List Int)) (h : m49 a0 = some r) : evFL T 49 [.ts .imm 1 (a0.map encInt)] [] = some (.sl 0 0 r.length, [some ⟨.arr, 1, r.map encInt⟩]) := by
  unfold m49 at h
  rw [evFL_at fn49 (Nat.le_of_ble_eq_true rfl) rfl (.inr rfl)]
  cases a0 with
  | nil =>
      obtain ⟨g1, h⟩ := ck_some h
      try simp -implicitDefEqProofs only [go_sem, Nat.reduceLT, Nat.reduceAdd, Nat.reduceSub, Nat.reduceMul, Nat.reduceEqDiff, Nat.reduceBEq, Nat.reduceLeDiff, Int.reduceToNat, Int.reduceLT, Int.reduceLE, Int.reduceEq, reduceCtorEq, ↓reduceIte] at g1
      cases h
      simp -implicitDefEqProofs only [go_sem, Nat.reduceLT, Nat.reduceAdd, Nat.reduceSub, Nat.reduceMul, Nat.reduceEqDiff, Nat.reduceBEq, Nat.reduceLeDiff, Int.reduceToNat, Int.reduceLT, Int.reduceLE, Int.reduceEq, reduceCtorEq, ↓reduceIte, i49, c49, g1]
  | cons y ys =>
      obtain ⟨g1, h⟩ := ck_some h
      try simp -implicitDefEqProofs only [go_sem, Nat.reduceLT, Nat.reduceAdd, Nat.reduceSub, Nat.reduceMul, Nat.reduceEqDiff, Nat.reduceBEq, Nat.reduceLeDiff, Int.reduceToNat, Int.reduceLT, Int.reduceLE, Int.reduceEq, reduceCtorEq, ↓reduceIte] at g1
      cases h
      simp -implicitDefEqProofs only [go_sem, Nat.reduceLT, Nat.reduceAdd, Nat.reduceSub, Nat.reduceMul, Nat.reduceEqDiff, Nat.reduceBEq, Nat.reduceLeDiff, Int.reduceToNat, Int.reduceLT, Int.reduceLE, Int.reduceEq, reduceCtorEq, ↓reduceIte, i49, c49, g1]
-- f71 slices.IndexFunc[[]int,int]
theorem call71 (args : List AV) (S : St) : evCall T (evFL T) 71 args S = lendC (evFL T 71) S (lendAll S [[1], [0]] args) := evCall0 fn71 rfl rfl args S
theorem callz71 (args : List AV) (S : St) : evCallFz T (evFL T) 71 args S = lendZ (evFL T 71) S [[0]] (lendAll S [[1], [0]] args) := evCallFz0 fn71 rfl rfl args S
attribute [go_sem] call71 callz71
noncomputable def X71_1 (a1_f : Nat) (a1_c : List AV) (a0 : (List Int)) (p1 : Int) (a1 : (Int → Option Bool)) (o : (Unit ⊕ Int)) : Ex × Fr × St :=
  match o with
  | .inl o => (.exit 0, frOf 19 (anyF), [])
  | .inr o => (.ret, frOf 19 (upd anyF 4 (.int .i64 o)), [])
noncomputable def E71_1 (a1_f : Nat) (a1_c : List AV) (a0 : (List Int)) (p1 : Int) (a1 : (Int → Option Bool)) (s : Int) : Fr × St := (frOf 19 (upd (upd (upd (upd anyF 0 (.ts .imm 1 (a0.map encInt))) 1 (.fn a1_f a1_c)) 7 (.int .i64 p1)) 8 (.int .i64 s)), [])
theorem b71_1 (a0 : (List Int)) (p1 : Int) (a1 : (Int → Option Bool)) (a1_f : Nat) (a1_c : List AV) (a1_h : ((∀ S, mapO (lendPtr S) a1_c = some a1_c) ∧ (∀ n0 src R tm t c, tdL n0 src R tm t c a1_c = some a1_c)) ∧ ∀ y0 r, a1 y0 = some r → (∀ S, evCall T (evFL T) a1_f ([.int .i64 y0] ++ a1_c) S = some (.bool r, S)) ∧ (∀ S, evCallFz T (evFL T) a1_f ([.int .i64 y0] ++ a1_c) S = some (.bool r, S))) (s : Int) (o : Ctl Int (Unit ⊕ Int)) (h : m71_1b a0 p1 a1 s = some o) : evCL T 0 k71_1b (E71_1 a1_f a1_c a0 p1 a1 s).1 (E71_1 a1_f a1_c a0 p1 a1 s).2 = some (ctlX (E71_1 a1_f a1_c a0 p1 a1) (X71_1 a1_f a1_c a0 p1 a1) o) := by
  unfold m71_1b at h
  revert h
  generalize s = s12
  intro h
  try simp -implicitDefEqProofs only [go_sem, Nat.reduceLT, Nat.reduceAdd, Nat.reduceSub, Nat.reduceMul, Nat.reduceEqDiff, Nat.reduceBEq, Nat.reduceLeDiff, Int.reduceToNat, Int.reduceLT, Int.reduceLE, Int.reduceEq, reduceCtorEq, ↓reduceIte, E71_1, X71_1, k71_1b, a1_h.1]
  cases b13 : (ltI s12 p1 : Bool)
  · replace h := br_f b13 h
    cases h
    simp -implicitDefEqProofs only [go_sem, Nat.reduceLT, Nat.reduceAdd, Nat.reduceSub, Nat.reduceMul, Nat.reduceEqDiff, Nat.reduceBEq, Nat.reduceLeDiff, Int.reduceToNat, Int.reduceLT, Int.reduceLE, Int.reduceEq, reduceCtorEq, ↓reduceIte, E71_1, X71_1, k71_1b, a1_h.1, b13]
  · replace h := br_t b13 h
    obtain ⟨x14, q15, h⟩ := bnd_some h
    obtain ⟨g16, g17, g18⟩ := idx_row encInt q15
    try simp -implicitDefEqProofs only [go_sem, Nat.reduceLT, Nat.reduceAdd, Nat.reduceSub, Nat.reduceMul, Nat.reduceEqDiff, Nat.reduceBEq, Nat.reduceLeDiff, Int.reduceToNat, Int.reduceLT, Int.reduceLE, Int.reduceEq, reduceCtorEq, ↓reduceIte] at g17
    try simp -implicitDefEqProofs only [go_sem, Nat.reduceLT, Nat.reduceAdd, Nat.reduceSub, Nat.reduceMul, Nat.reduceEqDiff, Nat.reduceBEq, Nat.reduceLeDiff, Int.reduceToNat, Int.reduceLT, Int.reduceLE, Int.reduceEq, reduceCtorEq, ↓reduceIte] at g18
    obtain ⟨r19, q20, h⟩ := bnd_some h
    have w21 := a1_h.2 x14 r19 q20
    try simp -implicitDefEqProofs only [go_sem, Nat.reduceLT, Nat.reduceAdd, Nat.reduceSub, Nat.reduceMul, Nat.reduceEqDiff, Nat.reduceBEq, Nat.reduceLeDiff, Int.reduceToNat, Int.reduceLT, Int.reduceLE, Int.reduceEq, reduceCtorEq, ↓reduceIte] at w21
    try simp -implicitDefEqProofs only [go_sem, Nat.reduceLT, Nat.reduceAdd, Nat.reduceSub, Nat.reduceMul, Nat.reduceEqDiff, Nat.reduceBEq, Nat.reduceLeDiff, Int.reduceToNat, Int.reduceLT, Int.reduceLE, Int.reduceEq, reduceCtorEq, ↓reduceIte, E71_1, X71_1, k71_1b, a1_h.1, b13, g16, g17, g18, w21.1, w21.2]
    cases b22 : (r19 : Bool)
    · replace h := br_f b22 h
      cases h
      simp -implicitDefEqProofs only [go_sem, Nat.reduceLT, Nat.reduceAdd, Nat.reduceSub, Nat.reduceMul, Nat.reduceEqDiff, Nat.reduceBEq, Nat.reduceLeDiff, Int.reduceToNat, Int.reduceLT, Int.reduceLE, Int.reduceEq, reduceCtorEq, ↓reduceIte, E71_1, X71_1, k71_1b, a1_h.1, b13, g16, g17, g18, w21.1, w21.2, b22]
    · replace h := br_t b22 h
      cases h
      simp -implicitDefEqProofs only [go_sem, Nat.reduceLT, Nat.reduceAdd, Nat.reduceSub, Nat.reduceMul, Nat.reduceEqDiff, Nat.reduceBEq, Nat.reduceLeDiff, Int.reduceToNat, Int.reduceLT, Int.reduceLE, Int.reduceEq, reduceCtorEq, ↓reduceIte, E71_1, X71_1, k71_1b, a1_h.1, b13, g16, g17, g18, w21.1, w21.2, b22]
theorem e71_1 (a0 : (List Int)) (p1 : Int) (a1 : (Int → Option Bool)) (a1_f : Nat) (a1_c : List AV) (a1_h : ((∀ S, mapO (lendPtr S) a1_c = some a1_c) ∧ (∀ n0 src R tm t c, tdL n0 src R tm t c a1_c = some a1_c)) ∧ ∀ y0 r, a1 y0 = some r → (∀ S, evCall T (evFL T) a1_f ([.int .i64 y0] ++ a1_c) S = some (.bool r, S)) ∧ (∀ S, evCallFz T (evFL T) a1_f ([.int .i64 y0] ++ a1_c) S = some (.bool r, S))) (s : Int) (o : (Unit ⊕ Int)) (h : loopP (m71_1b a0 p1 a1) s = some o) : evCL T 0 (.loop k71_1b) (E71_1 a1_f a1_c a0 p1 a1 s).1 (E71_1 a1_f a1_c a0 p1 a1 s).2 = some (X71_1 a1_f a1_c a0 p1 a1 o) :=
  loop_walk (E := E71_1 a1_f a1_c a0 p1 a1) (X := X71_1 a1_f a1_c a0 p1 a1) (by intro b; rcases b with b | b <;> (simp only [X71_1]; nofun)) (b71_1 a0 p1 a1 a1_f a1_c a1_h) s o h
theorem e71 (a0 : (List Int)) (a1 : (Int → Option Bool)) (a1_f : Nat) (a1_c : List AV) (a1_h : ((∀ S, mapO (lendPtr S) a1_c = some a1_c) ∧ (∀ n0 src R tm t c, tdL n0 src R tm t c a1_c = some a1_c)) ∧ ∀ y0 r, a1 y0 = some r → (∀ S, evCall T (evFL T) a1_f ([.int .i64 y0] ++ a1_c) S = some (.bool r, S)) ∧ (∀ S, evCallFz T (evFL T) a1_f ([.int .i64 y0] ++ a1_c) S = some (.bool r, S))) (r : Int) (h : m71 a0 a1 = some r) : evFL T 71 [.ts .imm 1 (a0.map encInt), .fn a1_f a1_c] [] = some (.int .i64 r, []) := by
  unfold m71 at h
  rw [evFL_at fn71 (Nat.le_of_ble_eq_true rfl) rfl (.inr rfl)]
  try simp -implicitDefEqProofs only [go_sem, Nat.reduceLT, Nat.reduceAdd, Nat.reduceSub, Nat.reduceMul, Nat.reduceEqDiff, Nat.reduceBEq, Nat.reduceLeDiff, Int.reduceToNat, Int.reduceLT, Int.reduceLE, Int.reduceEq, reduceCtorEq, ↓reduceIte, i71, c71, a1_h.1]
  obtain ⟨o, q23, h⟩ := bnd_some h
  rcases o with ⟨⟩ | v25
  · replace h := selS_l h
    have w24 := e71_1 a0 (↑a0.length : Int) a1 a1_f a1_c a1_h 0 (.inl ()) q23
    simp only [E71_1, X71_1] at w24
    try simp -implicitDefEqProofs only [go_sem, Nat.reduceLT, Nat.reduceAdd, Nat.reduceSub, Nat.reduceMul, Nat.reduceEqDiff, Nat.reduceBEq, Nat.reduceLeDiff, Int.reduceToNat, Int.reduceLT, Int.reduceLE, Int.reduceEq, reduceCtorEq, ↓reduceIte] at w24
    cases h
    simp -implicitDefEqProofs only [go_sem, Nat.reduceLT, Nat.reduceAdd, Nat.reduceSub, Nat.reduceMul, Nat.reduceEqDiff, Nat.reduceBEq, Nat.reduceLeDiff, Int.reduceToNat, Int.reduceLT, Int.reduceLE, Int.reduceEq, reduceCtorEq, ↓reduceIte, i71, c71, a1_h.1, w24]
  · replace h := selS_r h
    have w24 := e71_1 a0 (↑a0.length : Int) a1 a1_f a1_c a1_h 0 (.inr v25) q23
    simp only [E71_1, X71_1] at w24
    try simp -implicitDefEqProofs only [go_sem, Nat.reduceLT, Nat.reduceAdd, Nat.reduceSub, Nat.reduceMul, Nat.reduceEqDiff, Nat.reduceBEq, Nat.reduceLeDiff, Int.reduceToNat, Int.reduceLT, Int.reduceLE, Int.reduceEq, reduceCtorEq, ↓reduceIte] at w24
    cases h
    simp -implicitDefEqProofs only [go_sem, Nat.reduceLT, Nat.reduceAdd, Nat.reduceSub, Nat.reduceMul, Nat.reduceEqDiff, Nat.reduceBEq, Nat.reduceLeDiff, Int.reduceToNat, Int.reduceLT, Int.reduceLE, Int.reduceEq, reduceCtorEq, ↓reduceIte, i71, c71, a1_h.1, w24]
-- f48 slices.DeleteFunc[[]int,int]
theorem call48 (args : List AV) (S : St) : evCall T (evFL T) 48 args S = c3A true (evFL T 48) (rawAll S [[1], [0]] args) := evCall3_a fn48 rfl args S
attribute [go_sem] call48
noncomputable def X48_3 (a1_f : Nat) (a1_c : List AV) (s26 : Int) (s27 : Int) (x30 : Int) (p38 : Bool) (s28 : List Int) (a1 : (Int → Option Bool)) (o : (Int × List Int)) : Ex × Fr × St :=
  (.normal, frOf 42 (upd (upd (upd (upd anyF 0 (.sl 0 0 o.2.length)) 1 (.fn a1_f a1_c)) 5 (.int .i64 o.1)) 6 (.int .i64 s27)), [some ⟨.arr, 1, o.2.map encInt⟩])
theorem e48_3 (s26 : Int) (s27 : Int) (x30 : Int) (p38 : Bool) (s28 : List Int) (a1 : (Int → Option Bool)) (a1_f : Nat) (a1_c : List AV) (a1_h : ((∀ S, mapO (lendPtr S) a1_c = some a1_c) ∧ (∀ n0 src R tm t c, tdL n0 src R tm t c a1_c = some a1_c)) ∧ ∀ y0 r, a1 y0 = some r → (∀ S, evCall T (evFL T) a1_f ([.int .i64 y0] ++ a1_c) S = some (.bool r, S)) ∧ (∀ S, evCallFz T (evFL T) a1_f ([.int .i64 y0] ++ a1_c) S = some (.bool r, S))) (o : (Int × List Int)) (h : m48_3 s26 x30 p38 s28 = some o) : evCL T 1 k48_3 (frOf 42 (upd (upd (upd (upd (upd (upd anyF 0 (.sl 0 0 s28.length)) 1 (.fn a1_f a1_c)) 5 (.int .i64 s26)) 6 (.int .i64 s27)) 7 (.int .i64 x30)) 29 (.bool p38))) [some ⟨.arr, 1, s28.map encInt⟩] = some (X48_3 a1_f a1_c s26 s27 x30 p38 s28 a1 o) := by
  unfold m48_3 at h
  try simp -implicitDefEqProofs only [go_sem, Nat.reduceLT, Nat.reduceAdd, Nat.reduceSub, Nat.reduceMul, Nat.reduceEqDiff, Nat.reduceBEq, Nat.reduceLeDiff, Int.reduceToNat, Int.reduceLT, Int.reduceLE, Int.reduceEq, reduceCtorEq, ↓reduceIte, X48_3, k48_3, a1_h.1]
  cases b39 : (p38 : Bool)
  · replace h := br_f b39 h
    cases h
    simp -implicitDefEqProofs only [go_sem, Nat.reduceLT, Nat.reduceAdd, Nat.reduceSub, Nat.reduceMul, Nat.reduceEqDiff, Nat.reduceBEq, Nat.reduceLeDiff, Int.reduceToNat, Int.reduceLT, Int.reduceLE, Int.reduceEq, reduceCtorEq, ↓reduceIte, X48_3, k48_3, a1_h.1, b39]
  · replace h := br_t b39 h
    obtain ⟨x40, q41, h⟩ := bnd_some h
    obtain ⟨g42, g43, g44⟩ := idx_row encInt q41
    try simp -implicitDefEqProofs only [go_sem, Nat.reduceLT, Nat.reduceAdd, Nat.reduceSub, Nat.reduceMul, Nat.reduceEqDiff, Nat.reduceBEq, Nat.reduceLeDiff, Int.reduceToNat, Int.reduceLT, Int.reduceLE, Int.reduceEq, reduceCtorEq, ↓reduceIte] at g43
    try simp -implicitDefEqProofs only [go_sem, Nat.reduceLT, Nat.reduceAdd, Nat.reduceSub, Nat.reduceMul, Nat.reduceEqDiff, Nat.reduceBEq, Nat.reduceLeDiff, Int.reduceToNat, Int.reduceLT, Int.reduceLE, Int.reduceEq, reduceCtorEq, ↓reduceIte] at g44
    cases h
    simp -implicitDefEqProofs only [go_sem, Nat.reduceLT, Nat.reduceAdd, Nat.reduceSub, Nat.reduceMul, Nat.reduceEqDiff, Nat.reduceBEq, Nat.reduceLeDiff, Int.reduceToNat, Int.reduceLT, Int.reduceLE, Int.reduceEq, reduceCtorEq, ↓reduceIte, X48_3, k48_3, a1_h.1, b39, g42, g43, g44]
noncomputable def X48_1 (a1_f : Nat) (a1_c : List AV) (a1 : (Int → Option Bool)) (o : (Int × List Int)) : Ex × Fr × St :=
  (.exit 0, frOf 42 (upd (upd anyF 0 (.sl 0 0 o.2.length)) 5 (.int .i64 o.1)), [some ⟨.arr, 1, o.2.map encInt⟩])
noncomputable def E48_1 (a1_f : Nat) (a1_c : List AV) (a1 : (Int → Option Bool)) (s : (Int × Int × List Int)) : Fr × St := (frOf 42 (upd (upd (upd (upd anyF 0 (.sl 0 0 s.2.2.length)) 1 (.fn a1_f a1_c)) 5 (.int .i64 s.1)) 6 (.int .i64 s.2.1)), [some ⟨.arr, 1, s.2.2.map encInt⟩])
theorem b48_1 (a1 : (Int → Option Bool)) (a1_f : Nat) (a1_c : List AV) (a1_h : ((∀ S, mapO (lendPtr S) a1_c = some a1_c) ∧ (∀ n0 src R tm t c, tdL n0 src R tm t c a1_c = some a1_c)) ∧ ∀ y0 r, a1 y0 = some r → (∀ S, evCall T (evFL T) a1_f ([.int .i64 y0] ++ a1_c) S = some (.bool r, S)) ∧ (∀ S, evCallFz T (evFL T) a1_f ([.int .i64 y0] ++ a1_c) S = some (.bool r, S))) (s : (Int × Int × List Int)) (o : Ctl (Int × Int × List Int) (Int × List Int)) (h : m48_1b a1 s = some o) : evCL T 1 k48_1b (E48_1 a1_f a1_c a1 s).1 (E48_1 a1_f a1_c a1 s).2 = some (ctlX (E48_1 a1_f a1_c a1) (X48_1 a1_f a1_c a1) o) := by
  unfold m48_1b at h
  obtain ⟨s26, s27, s28⟩ := s
  replace h := sel3_some h
  try simp -implicitDefEqProofs only [go_sem, Nat.reduceLT, Nat.reduceAdd, Nat.reduceSub, Nat.reduceMul, Nat.reduceEqDiff, Nat.reduceBEq, Nat.reduceLeDiff, Int.reduceToNat, Int.reduceLT, Int.reduceLE, Int.reduceEq, reduceCtorEq, ↓reduceIte, E48_1, X48_1, k48_1b, a1_h.1]
  cases b29 : (ltI s27 (↑s28.length : Int) : Bool)
  · replace h := br_f b29 h
    cases h
    simp -implicitDefEqProofs only [go_sem, Nat.reduceLT, Nat.reduceAdd, Nat.reduceSub, Nat.reduceMul, Nat.reduceEqDiff, Nat.reduceBEq, Nat.reduceLeDiff, Int.reduceToNat, Int.reduceLT, Int.reduceLE, Int.reduceEq, reduceCtorEq, ↓reduceIte, E48_1, X48_1, k48_1b, a1_h.1, b29]
  · replace h := br_t b29 h
    obtain ⟨x30, q31, h⟩ := bnd_some h
    obtain ⟨g32, g33, g34⟩ := idx_row encInt q31
    try simp -implicitDefEqProofs only [go_sem, Nat.reduceLT, Nat.reduceAdd, Nat.reduceSub, Nat.reduceMul, Nat.reduceEqDiff, Nat.reduceBEq, Nat.reduceLeDiff, Int.reduceToNat, Int.reduceLT, Int.reduceLE, Int.reduceEq, reduceCtorEq, ↓reduceIte] at g33
    try simp -implicitDefEqProofs only [go_sem, Nat.reduceLT, Nat.reduceAdd, Nat.reduceSub, Nat.reduceMul, Nat.reduceEqDiff, Nat.reduceBEq, Nat.reduceLeDiff, Int.reduceToNat, Int.reduceLT, Int.reduceLE, Int.reduceEq, reduceCtorEq, ↓reduceIte] at g34
    obtain ⟨r35, q36, h⟩ := bnd_some h
    have w37 := a1_h.2 x30 r35 q36
    try simp -implicitDefEqProofs only [go_sem, Nat.reduceLT, Nat.reduceAdd, Nat.reduceSub, Nat.reduceMul, Nat.reduceEqDiff, Nat.reduceBEq, Nat.reduceLeDiff, Int.reduceToNat, Int.reduceLT, Int.reduceLE, Int.reduceEq, reduceCtorEq, ↓reduceIte] at w37
    obtain ⟨⟨v47, v48⟩, q45, h⟩ := bnd_some h
    replace h := sel2_some h
    have w46 := e48_3 s26 s27 x30 (!r35) s28 a1 a1_f a1_c a1_h (v47, v48) q45
    simp only [X48_3] at w46
    try simp -implicitDefEqProofs only [go_sem, Nat.reduceLT, Nat.reduceAdd, Nat.reduceSub, Nat.reduceMul, Nat.reduceEqDiff, Nat.reduceBEq, Nat.reduceLeDiff, Int.reduceToNat, Int.reduceLT, Int.reduceLE, Int.reduceEq, reduceCtorEq, ↓reduceIte] at w46
    cases h
    simp -implicitDefEqProofs only [go_sem, Nat.reduceLT, Nat.reduceAdd, Nat.reduceSub, Nat.reduceMul, Nat.reduceEqDiff, Nat.reduceBEq, Nat.reduceLeDiff, Int.reduceToNat, Int.reduceLT, Int.reduceLE, Int.reduceEq, reduceCtorEq, ↓reduceIte, E48_1, X48_1, k48_1b, a1_h.1, b29, g32, g33, g34, w37.1, w37.2, w46]
theorem e48_1 (a1 : (Int → Option Bool)) (a1_f : Nat) (a1_c : List AV) (a1_h : ((∀ S, mapO (lendPtr S) a1_c = some a1_c) ∧ (∀ n0 src R tm t c, tdL n0 src R tm t c a1_c = some a1_c)) ∧ ∀ y0 r, a1 y0 = some r → (∀ S, evCall T (evFL T) a1_f ([.int .i64 y0] ++ a1_c) S = some (.bool r, S)) ∧ (∀ S, evCallFz T (evFL T) a1_f ([.int .i64 y0] ++ a1_c) S = some (.bool r, S))) (s : (Int × Int × List Int)) (o : (Int × List Int)) (h : loopP (m48_1b a1) s = some o) : evCL T 1 (.loop k48_1b) (E48_1 a1_f a1_c a1 s).1 (E48_1 a1_f a1_c a1 s).2 = some (X48_1 a1_f a1_c a1 o) :=
  loop_walk (E := E48_1 a1_f a1_c a1) (X := X48_1 a1_f a1_c a1) (by intro b; (simp only [X48_1]; nofun)) (b48_1 a1 a1_f a1_c a1_h) s o h
theorem e48 (a0 : (List Int)) (a1 : (Int → Option Bool)) (a1_f : Nat) (a1_c : List AV) (a1_h : ((∀ S, mapO (lendPtr S) a1_c = some a1_c) ∧ (∀ n0 src R tm t c, tdL n0 src R tm t c a1_c = some a1_c)) ∧ ∀ y0 r, a1 y0 = some r → (∀ S, evCall T (evFL T) a1_f ([.int .i64 y0] ++ a1_c) S = some (.bool r, S)) ∧ (∀ S, evCallFz T (evFL T) a1_f ([.int .i64 y0] ++ a1_c) S = some (.bool r, S))) (r : List Int) (h : m48 a0 a1 = some r) : evFL T 48 [.sl 0 0 a0.length, .fn a1_f a1_c] [some ⟨.arr, 1, a0.map encInt⟩] = some (.sl 1 0 r.length, [none, some ⟨.arr, 1, r.map encInt⟩]) := by
  unfold m48 at h
  rw [evFL_at fn48 (Nat.le_of_ble_eq_true rfl) rfl (.inl rfl)]
  obtain ⟨r3, q1, h⟩ := bnd_some h
  have w2 := e71 a0 a1 a1_f a1_c a1_h r3 q1
  try simp -implicitDefEqProofs only [go_sem, Nat.reduceLT, Nat.reduceAdd, Nat.reduceSub, Nat.reduceMul, Nat.reduceEqDiff, Nat.reduceBEq, Nat.reduceLeDiff, Int.reduceToNat, Int.reduceLT, Int.reduceLE, Int.reduceEq, reduceCtorEq, ↓reduceIte] at w2
  try simp -implicitDefEqProofs only [go_sem, Nat.reduceLT, Nat.reduceAdd, Nat.reduceSub, Nat.reduceMul, Nat.reduceEqDiff, Nat.reduceBEq, Nat.reduceLeDiff, Int.reduceToNat, Int.reduceLT, Int.reduceLE, Int.reduceEq, reduceCtorEq, ↓reduceIte, i48, c48, a1_h.1, w2]
  cases b4 : (eqI r3 (-1) : Bool)
  · replace h := br_f b4 h
    obtain ⟨⟨v51, v52⟩, q49, h⟩ := bnd_some h
    replace h := sel2_some h
    have w50 := e48_1 a1 a1_f a1_c a1_h (r3, wadd .i64 r3 1, a0) (v51, v52) q49
    simp only [E48_1, X48_1] at w50
    try simp -implicitDefEqProofs only [go_sem, Nat.reduceLT, Nat.reduceAdd, Nat.reduceSub, Nat.reduceMul, Nat.reduceEqDiff, Nat.reduceBEq, Nat.reduceLeDiff, Int.reduceToNat, Int.reduceLT, Int.reduceLE, Int.reduceEq, reduceCtorEq, ↓reduceIte] at w50
    obtain ⟨g53, h⟩ := ck_some h
    try simp -implicitDefEqProofs only [go_sem, Nat.reduceLT, Nat.reduceAdd, Nat.reduceSub, Nat.reduceMul, Nat.reduceEqDiff, Nat.reduceBEq, Nat.reduceLeDiff, Int.reduceToNat, Int.reduceLT, Int.reduceLE, Int.reduceEq, reduceCtorEq, ↓reduceIte] at g53
    have g54 : v51.toNat + (v52.length - v51.toNat) ≤ v52.length := by (try simp only [List.length_take, List.length_drop, List.length_append, List.length_set, List.length_cons, List.length_nil]); omega
    have g55 : v51.toNat + (v52.length - v51.toNat) = v52.length := by (try simp only [List.length_take, List.length_drop, List.length_append, List.length_set, List.length_cons, List.length_nil]); omega
    have g56 : v51.toNat ≤ v52.length := by (try simp only [List.length_take, List.length_drop, List.length_append, List.length_set, List.length_cons, List.length_nil]); omega
    obtain ⟨g57, h⟩ := ck_some h
    try simp -implicitDefEqProofs only [go_sem, Nat.reduceLT, Nat.reduceAdd, Nat.reduceSub, Nat.reduceMul, Nat.reduceEqDiff, Nat.reduceBEq, Nat.reduceLeDiff, Int.reduceToNat, Int.reduceLT, Int.reduceLE, Int.reduceEq, reduceCtorEq, ↓reduceIte] at g57
    have g58 : 0 + (v51.toNat) ≤ (v52.take v51.toNat).length := by (try simp only [List.length_take, List.length_drop, List.length_append, List.length_set, List.length_cons, List.length_nil]); omega
    have g59 : v51.toNat ≤ (((v52.take v51.toNat).drop 0).take v52.length).length := by (try simp only [List.length_take, List.length_drop, List.length_append, List.length_set, List.length_cons, List.length_nil]); omega
    cases h
    simp -implicitDefEqProofs only [go_sem, Nat.reduceLT, Nat.reduceAdd, Nat.reduceSub, Nat.reduceMul, Nat.reduceEqDiff, Nat.reduceBEq, Nat.reduceLeDiff, Int.reduceToNat, Int.reduceLT, Int.reduceLE, Int.reduceEq, reduceCtorEq, ↓reduceIte, i48, c48, a1_h.1, w2, b4, w50, g53, g54, g55, g56, g57, g58, g59]
  · replace h := br_t b4 h
    cases h
    simp -implicitDefEqProofs only [go_sem, Nat.reduceLT, Nat.reduceAdd, Nat.reduceSub, Nat.reduceMul, Nat.reduceEqDiff, Nat.reduceBEq, Nat.reduceLeDiff, Int.reduceToNat, Int.reduceLT, Int.reduceLE, Int.reduceEq, reduceCtorEq, ↓reduceIte, i48, c48, a1_h.1, w2, b4]
-- f51 slices.ContainsFunc[[]int,int]
theorem call51 (args : List AV) (S : St) : evCall T (evFL T) 51 args S = lendC (evFL T 51) S (lendAll S [[1], [0]] args) := evCall0 fn51 rfl rfl args S
theorem callz51 (args : List AV) (S : St) : evCallFz T (evFL T) 51 args S = lendZ (evFL T 51) S [[0]] (lendAll S [[1], [0]] args) := evCallFz0 fn51 rfl rfl args S
attribute [go_sem] call51 callz51
theorem e51 (a0 : (List Int)) (a1 : (Int → Option Bool)) (a1_f : Nat) (a1_c : List AV) (a1_h : ((∀ S, mapO (lendPtr S) a1_c = some a1_c) ∧ (∀ n0 src R tm t c, tdL n0 src R tm t c a1_c = some a1_c)) ∧ ∀ y0 r, a1 y0 = some r → (∀ S, evCall T (evFL T) a1_f ([.int .i64 y0] ++ a1_c) S = some (.bool r, S)) ∧ (∀ S, evCallFz T (evFL T) a1_f ([.int .i64 y0] ++ a1_c) S = some (.bool r, S))) (r : Bool) (h : m51 a0 a1 = some r) : evFL T 51 [.ts .imm 1 (a0.map encInt), .fn a1_f a1_c] [] = some (.bool r, []) := by
  unfold m51 at h
  rw [evFL_at fn51 (Nat.le_of_ble_eq_true rfl) rfl (.inr rfl)]
  obtain ⟨r3, q1, h⟩ := bnd_some h
  have w2 := e71 a0 a1 a1_f a1_c a1_h r3 q1
  try simp -implicitDefEqProofs only [go_sem, Nat.reduceLT, Nat.reduceAdd, Nat.reduceSub, Nat.reduceMul, Nat.reduceEqDiff, Nat.reduceBEq, Nat.reduceLeDiff, Int.reduceToNat, Int.reduceLT, Int.reduceLE, Int.reduceEq, reduceCtorEq, ↓reduceIte] at w2
  cases h
  simp -implicitDefEqProofs only [go_sem, Nat.reduceLT, Nat.reduceAdd, Nat.reduceSub, Nat.reduceMul, Nat.reduceEqDiff, Nat.reduceBEq, Nat.reduceLeDiff, Int.reduceToNat, Int.reduceLT, Int.reduceLE, Int.reduceEq, reduceCtorEq, ↓reduceIte, i51, c51, a1_h.1, w2]
-- f46 impl.kindTo
theorem call46 (args : List AV) (S : St) : evCall T (evFL T) 46 args S = lendC (evFL T 46) S (lendAll S [[3], [0], [0]] args) := evCall0 fn46 rfl rfl args S
theorem callz46 (args : List AV) (S : St) : evCallFz T (evFL T) 46 args S = lendZ (evFL T 46) S [[0]] (lendAll S [[3], [0], [0]] args) := evCallFz0 fn46 rfl rfl args S
attribute [go_sem] call46 callz46
noncomputable def X46_4 (a1 : Int) (a2 : Int) (a0 : (List Rel)) (p1 : Int) (s18 : Int) (x20 : Rel) (o : Bool) : Ex × Fr × St :=
  (.normal, frOf 41 (upd (upd (upd (upd (upd (upd (upd anyF 1 (.int .i64 a1)) 2 (.int .i64 a2)) 8 (.ptr 0 0 0)) 9 (.ts .imm 3 (a0.map encRel))) 10 (.int .i64 p1)) 11 (.int .i64 s18)) 24 (.bool o)), [some ⟨.box, 3, [[.int .i64 x20.a, .int .i64 x20.b, .int .i64 x20.kind]]⟩])
theorem e46_4 (a1 : Int) (a2 : Int) (a0 : (List Rel)) (p1 : Int) (s18 : Int) (x20 : Rel) (o : Bool) (h : m46_4 a1 a2 x20 = some o) : evCL T 0 k46_4 (frOf 41 (upd (upd (upd (upd (upd (upd anyF 1 (.int .i64 a1)) 2 (.int .i64 a2)) 8 (.ptr 0 0 0)) 9 (.ts .imm 3 (a0.map encRel))) 10 (.int .i64 p1)) 11 (.int .i64 s18))) [some ⟨.box, 3, [[.int .i64 x20.a, .int .i64 x20.b, .int .i64 x20.kind]]⟩] = some (X46_4 a1 a2 a0 p1 s18 x20 o) := by
  unfold m46_4 at h
  try simp -implicitDefEqProofs only [go_sem, Nat.reduceLT, Nat.reduceAdd, Nat.reduceSub, Nat.reduceMul, Nat.reduceEqDiff, Nat.reduceBEq, Nat.reduceLeDiff, Int.reduceToNat, Int.reduceLT, Int.reduceLE, Int.reduceEq, reduceCtorEq, ↓reduceIte, X46_4, k46_4]
  cases b25 : (eqI x20.a a1 : Bool)
  · replace h := br_f b25 h
    cases h
    simp -implicitDefEqProofs only [go_sem, Nat.reduceLT, Nat.reduceAdd, Nat.reduceSub, Nat.reduceMul, Nat.reduceEqDiff, Nat.reduceBEq, Nat.reduceLeDiff, Int.reduceToNat, Int.reduceLT, Int.reduceLE, Int.reduceEq, reduceCtorEq, ↓reduceIte, X46_4, k46_4, b25]
  · replace h := br_t b25 h
    cases h
    simp -implicitDefEqProofs only [go_sem, Nat.reduceLT, Nat.reduceAdd, Nat.reduceSub, Nat.reduceMul, Nat.reduceEqDiff, Nat.reduceBEq, Nat.reduceLeDiff, Int.reduceToNat, Int.reduceLT, Int.reduceLE, Int.reduceEq, reduceCtorEq, ↓reduceIte, X46_4, k46_4, b25]
noncomputable def X46_5 (a1 : Int) (a2 : Int) (a0 : (List Rel)) (p1 : Int) (s18 : Int) (x20 : Rel) (o : Bool) : Ex × Fr × St :=
  (.normal, frOf 41 (upd (upd (upd (upd (upd (upd (upd anyF 1 (.int .i64 a1)) 2 (.int .i64 a2)) 8 (.ptr 0 0 0)) 9 (.ts .imm 3 (a0.map encRel))) 10 (.int .i64 p1)) 11 (.int .i64 s18)) 36 (.bool o)), [some ⟨.box, 3, [[.int .i64 x20.a, .int .i64 x20.b, .int .i64 x20.kind]]⟩])
theorem e46_5 (a1 : Int) (a2 : Int) (a0 : (List Rel)) (p1 : Int) (s18 : Int) (x20 : Rel) (o : Bool) (h : m46_5 a1 a2 x20 = some o) : evCL T 0 k46_5 (frOf 41 (upd (upd (upd (upd (upd (upd anyF 1 (.int .i64 a1)) 2 (.int .i64 a2)) 8 (.ptr 0 0 0)) 9 (.ts .imm 3 (a0.map encRel))) 10 (.int .i64 p1)) 11 (.int .i64 s18))) [some ⟨.box, 3, [[.int .i64 x20.a, .int .i64 x20.b, .int .i64 x20.kind]]⟩] = some (X46_5 a1 a2 a0 p1 s18 x20 o) := by
  unfold m46_5 at h
  try simp -implicitDefEqProofs only [go_sem, Nat.reduceLT, Nat.reduceAdd, Nat.reduceSub, Nat.reduceMul, Nat.reduceEqDiff, Nat.reduceBEq, Nat.reduceLeDiff, Int.reduceToNat, Int.reduceLT, Int.reduceLE, Int.reduceEq, reduceCtorEq, ↓reduceIte, X46_5, k46_5]
  cases b30 : (eqI x20.a a2 : Bool)
  · replace h := br_f b30 h
    cases h
    simp -implicitDefEqProofs only [go_sem, Nat.reduceLT, Nat.reduceAdd, Nat.reduceSub, Nat.reduceMul, Nat.reduceEqDiff, Nat.reduceBEq, Nat.reduceLeDiff, Int.reduceToNat, Int.reduceLT, Int.reduceLE, Int.reduceEq, reduceCtorEq, ↓reduceIte, X46_5, k46_5, b30]
  · replace h := br_t b30 h
    cases h
    simp -implicitDefEqProofs only [go_sem, Nat.reduceLT, Nat.reduceAdd, Nat.reduceSub, Nat.reduceMul, Nat.reduceEqDiff, Nat.reduceBEq, Nat.reduceLeDiff, Int.reduceToNat, Int.reduceLT, Int.reduceLE, Int.reduceEq, reduceCtorEq, ↓reduceIte, X46_5, k46_5, b30]
noncomputable def X46_1 (a1 : Int) (a2 : Int) (a0 : (List Rel)) (p1 : Int) (o : (Unit ⊕ Int)) : Ex × Fr × St :=
  match o with
  | .inl o => (.exit 0, frOf 41 (anyF), [])
  | .inr o => (.ret, frOf 41 (upd anyF 6 (.int .i64 o)), [])
noncomputable def E46_1 (a1 : Int) (a2 : Int) (a0 : (List Rel)) (p1 : Int) (s : Int) : Fr × St := (frOf 41 (upd (upd (upd (upd (upd anyF 1 (.int .i64 a1)) 2 (.int .i64 a2)) 9 (.ts .imm 3 (a0.map encRel))) 10 (.int .i64 p1)) 11 (.int .i64 s)), [])
theorem b46_1 (a1 : Int) (a2 : Int) (a0 : (List Rel)) (p1 : Int) (s : Int) (o : Ctl Int (Unit ⊕ Int)) (h : m46_1b a1 a2 a0 p1 s = some o) : evCL T 0 k46_1b (E46_1 a1 a2 a0 p1 s).1 (E46_1 a1 a2 a0 p1 s).2 = some (ctlX (E46_1 a1 a2 a0 p1) (X46_1 a1 a2 a0 p1) o) := by
  unfold m46_1b at h
  revert h
  generalize s = s18
  intro h
  try simp -implicitDefEqProofs only [go_sem, Nat.reduceLT, Nat.reduceAdd, Nat.reduceSub, Nat.reduceMul, Nat.reduceEqDiff, Nat.reduceBEq, Nat.reduceLeDiff, Int.reduceToNat, Int.reduceLT, Int.reduceLE, Int.reduceEq, reduceCtorEq, ↓reduceIte, E46_1, X46_1, k46_1b]
  cases b19 : (ltI s18 p1 : Bool)
  · replace h := br_f b19 h
    cases h
    simp -implicitDefEqProofs only [go_sem, Nat.reduceLT, Nat.reduceAdd, Nat.reduceSub, Nat.reduceMul, Nat.reduceEqDiff, Nat.reduceBEq, Nat.reduceLeDiff, Int.reduceToNat, Int.reduceLT, Int.reduceLE, Int.reduceEq, reduceCtorEq, ↓reduceIte, E46_1, X46_1, k46_1b, b19]
  · replace h := br_t b19 h
    obtain ⟨x20, q21, h⟩ := bnd_some h
    obtain ⟨g22, g23, g24⟩ := idx_row encRel q21
    try simp -implicitDefEqProofs only [go_sem, Nat.reduceLT, Nat.reduceAdd, Nat.reduceSub, Nat.reduceMul, Nat.reduceEqDiff, Nat.reduceBEq, Nat.reduceLeDiff, Int.reduceToNat, Int.reduceLT, Int.reduceLE, Int.reduceEq, reduceCtorEq, ↓reduceIte] at g23
    try simp -implicitDefEqProofs only [go_sem, Nat.reduceLT, Nat.reduceAdd, Nat.reduceSub, Nat.reduceMul, Nat.reduceEqDiff, Nat.reduceBEq, Nat.reduceLeDiff, Int.reduceToNat, Int.reduceLT, Int.reduceLE, Int.reduceEq, reduceCtorEq, ↓reduceIte] at g24
    obtain ⟨v28, q26, h⟩ := bnd_some h
    have w27 := e46_4 a1 a2 a0 p1 s18 x20 v28 q26
    simp only [X46_4] at w27
    try simp -implicitDefEqProofs only [go_sem, Nat.reduceLT, Nat.reduceAdd, Nat.reduceSub, Nat.reduceMul, Nat.reduceEqDiff, Nat.reduceBEq, Nat.reduceLeDiff, Int.reduceToNat, Int.reduceLT, Int.reduceLE, Int.reduceEq, reduceCtorEq, ↓reduceIte] at w27
    try simp -implicitDefEqProofs only [go_sem, Nat.reduceLT, Nat.reduceAdd, Nat.reduceSub, Nat.reduceMul, Nat.reduceEqDiff, Nat.reduceBEq, Nat.reduceLeDiff, Int.reduceToNat, Int.reduceLT, Int.reduceLE, Int.reduceEq, reduceCtorEq, ↓reduceIte, E46_1, X46_1, k46_1b, b19, g22, g23, g24, w27]
    cases b29 : (v28 : Bool)
    · replace h := br_f b29 h
      obtain ⟨v33, q31, h⟩ := bnd_some h
      have w32 := e46_5 a1 a2 a0 p1 s18 x20 v33 q31
      simp only [X46_5] at w32
      try simp -implicitDefEqProofs only [go_sem, Nat.reduceLT, Nat.reduceAdd, Nat.reduceSub, Nat.reduceMul, Nat.reduceEqDiff, Nat.reduceBEq, Nat.reduceLeDiff, Int.reduceToNat, Int.reduceLT, Int.reduceLE, Int.reduceEq, reduceCtorEq, ↓reduceIte] at w32
      try simp -implicitDefEqProofs only [go_sem, Nat.reduceLT, Nat.reduceAdd, Nat.reduceSub, Nat.reduceMul, Nat.reduceEqDiff, Nat.reduceBEq, Nat.reduceLeDiff, Int.reduceToNat, Int.reduceLT, Int.reduceLE, Int.reduceEq, reduceCtorEq, ↓reduceIte, E46_1, X46_1, k46_1b, b19, g22, g23, g24, w27, b29, w32]
      cases b34 : (v33 : Bool)
      · replace h := br_f b34 h
        cases h
        simp -implicitDefEqProofs only [go_sem, Nat.reduceLT, Nat.reduceAdd, Nat.reduceSub, Nat.reduceMul, Nat.reduceEqDiff, Nat.reduceBEq, Nat.reduceLeDiff, Int.reduceToNat, Int.reduceLT, Int.reduceLE, Int.reduceEq, reduceCtorEq, ↓reduceIte, E46_1, X46_1, k46_1b, b19, g22, g23, g24, w27, b29, w32, b34]
      · replace h := br_t b34 h
        cases h
        simp -implicitDefEqProofs only [go_sem, Nat.reduceLT, Nat.reduceAdd, Nat.reduceSub, Nat.reduceMul, Nat.reduceEqDiff, Nat.reduceBEq, Nat.reduceLeDiff, Int.reduceToNat, Int.reduceLT, Int.reduceLE, Int.reduceEq, reduceCtorEq, ↓reduceIte, E46_1, X46_1, k46_1b, b19, g22, g23, g24, w27, b29, w32, b34]
    · replace h := br_t b29 h
      cases h
      simp -implicitDefEqProofs only [go_sem, Nat.reduceLT, Nat.reduceAdd, Nat.reduceSub, Nat.reduceMul, Nat.reduceEqDiff, Nat.reduceBEq, Nat.reduceLeDiff, Int.reduceToNat, Int.reduceLT, Int.reduceLE, Int.reduceEq, reduceCtorEq, ↓reduceIte, E46_1, X46_1, k46_1b, b19, g22, g23, g24, w27, b29]
theorem e46_1 (a1 : Int) (a2 : Int) (a0 : (List Rel)) (p1 : Int) (s : Int) (o : (Unit ⊕ Int)) (h : loopP (m46_1b a1 a2 a0 p1) s = some o) : evCL T 0 (.loop k46_1b) (E46_1 a1 a2 a0 p1 s).1 (E46_1 a1 a2 a0 p1 s).2 = some (X46_1 a1 a2 a0 p1 o) :=
  loop_walk (E := E46_1 a1 a2 a0 p1) (X := X46_1 a1 a2 a0 p1) (by intro b; rcases b with b | b <;> (simp only [X46_1]; nofun)) (b46_1 a1 a2 a0 p1) s o h
theorem e46 (a0 : (List Rel)) (a1 : Int) (a2 : Int) (r : Int) (h : m46 a0 a1 a2 = some r) : evFL T 46 [.ts .imm 3 (a0.map encRel), .int .i64 a1, .int .i64 a2] [] = some (.int .i64 r, []) := by
  unfold m46 at h
  rw [evFL_at fn46 (Nat.le_of_ble_eq_true rfl) rfl (.inr rfl)]
  try simp -implicitDefEqProofs only [go_sem, Nat.reduceLT, Nat.reduceAdd, Nat.reduceSub, Nat.reduceMul, Nat.reduceEqDiff, Nat.reduceBEq, Nat.reduceLeDiff, Int.reduceToNat, Int.reduceLT, Int.reduceLE, Int.reduceEq, reduceCtorEq, ↓reduceIte, i46, c46]
  obtain ⟨o, q35, h⟩ := bnd_some h
  rcases o with ⟨⟩ | v37
  · replace h := selS_l h
    have w36 := e46_1 a1 a2 a0 (↑a0.length : Int) 0 (.inl ()) q35
    simp only [E46_1, X46_1] at w36
    try simp -implicitDefEqProofs only [go_sem, Nat.reduceLT, Nat.reduceAdd, Nat.reduceSub, Nat.reduceMul, Nat.reduceEqDiff, Nat.reduceBEq, Nat.reduceLeDiff, Int.reduceToNat, Int.reduceLT, Int.reduceLE, Int.reduceEq, reduceCtorEq, ↓reduceIte] at w36
    cases h
    simp -implicitDefEqProofs only [go_sem, Nat.reduceLT, Nat.reduceAdd, Nat.reduceSub, Nat.reduceMul, Nat.reduceEqDiff, Nat.reduceBEq, Nat.reduceLeDiff, Int.reduceToNat, Int.reduceLT, Int.reduceLE, Int.reduceEq, reduceCtorEq, ↓reduceIte, i46, c46, w36]
  · replace h := selS_r h
    have w36 := e46_1 a1 a2 a0 (↑a0.length : Int) 0 (.inr v37) q35
    simp only [E46_1, X46_1] at w36
    try simp -implicitDefEqProofs only [go_sem, Nat.reduceLT, Nat.reduceAdd, Nat.reduceSub, Nat.reduceMul, Nat.reduceEqDiff, Nat.reduceBEq, Nat.reduceLeDiff, Int.reduceToNat, Int.reduceLT, Int.reduceLE, Int.reduceEq, reduceCtorEq, ↓reduceIte] at w36
    cases h
    simp -implicitDefEqProofs only [go_sem, Nat.reduceLT, Nat.reduceAdd, Nat.reduceSub, Nat.reduceMul, Nat.reduceEqDiff, Nat.reduceBEq, Nat.reduceLeDiff, Int.reduceToNat, Int.reduceLT, Int.reduceLE, Int.reduceEq, reduceCtorEq, ↓reduceIte, i46, c46, w36]
-- f52 impl.NoRing$1$1
theorem call52 (args : List AV) (S : St) : evCall T (evFL T) 52 args S = lendC (evFL T 52) S (lendAll S [[0], [0], [0]] args) := evCall0 fn52 rfl rfl args S
theorem callz52 (args : List AV) (S : St) : evCallFz T (evFL T) 52 args S = lendZ (evFL T 52) S [[0]] (lendAll S [[0], [0], [0]] args) := evCallFz0 fn52 rfl rfl args S
attribute [go_sem] call52 callz52
theorem e52 (a0 : Int) (a1 : (List Rel)) (a2 : Int) (r : Bool) (h : m52 a0 a1 a2 = some r) : evFL T 52 [.int .i64 a0, .tp .imm 1 [[.ts .imm 3 (a1.map encRel)]] 0 0, .tp .imm 1 [[.int .i64 a2]] 0 0] [] = some (.bool r, []) := by
  unfold m52 at h
  rw [evFL_at fn52 (Nat.le_of_ble_eq_true rfl) rfl (.inr rfl)]
  obtain ⟨r3, q1, h⟩ := bnd_some h
  have w2 := e46 a1 a2 a0 r3 q1
  try simp -implicitDefEqProofs only [go_sem, Nat.reduceLT, Nat.reduceAdd, Nat.reduceSub, Nat.reduceMul, Nat.reduceEqDiff, Nat.reduceBEq, Nat.reduceLeDiff, Int.reduceToNat, Int.reduceLT, Int.reduceLE, Int.reduceEq, reduceCtorEq, ↓reduceIte] at w2
  cases h
  simp -implicitDefEqProofs only [go_sem, Nat.reduceLT, Nat.reduceAdd, Nat.reduceSub, Nat.reduceMul, Nat.reduceEqDiff, Nat.reduceBEq, Nat.reduceLeDiff, Int.reduceToNat, Int.reduceLT, Int.reduceLE, Int.reduceEq, reduceCtorEq, ↓reduceIte, i52, c52, w2]
-- f50 impl.NoRing$1
theorem call50 (args : List AV) (S : St) : evCall T (evFL T) 50 args S = lendC (evFL T 50) S (lendAll S [[0], [0], [0]] args) := evCall0 fn50 rfl rfl args S
theorem callz50 (args : List AV) (S : St) : evCallFz T (evFL T) 50 args S = lendZ (evFL T 50) S [[0]] (lendAll S [[0], [0], [0]] args) := evCallFz0 fn50 rfl rfl args S
attribute [go_sem] call50 callz50
theorem e50 (a0 : Int) (a1 : (List Int)) (a2 : (List Rel)) (r : Bool) (h : m50 a0 a1 a2 = some r) : evFL T 50 [.int .i64 a0, .tp .imm 1 [[.ts .imm 1 (a1.map encInt)]] 0 0, .tp .imm 1 [[.ts .imm 3 (a2.map encRel)]] 0 0] [] = some (.bool r, []) := by
  unfold m50 at h
  rw [evFL_at fn50 (Nat.le_of_ble_eq_true rfl) rfl (.inr rfl)]
  obtain ⟨r3, q1, h⟩ := bnd_some h
  have w2 := e51 a1 (fun y0 => m52 y0 a2 a0) 52 [.tp .imm 1 [[.ts .imm 3 (a2.map encRel)]] 0 0, .tp .imm 1 [[.int .i64 a0]] 0 0] ⟨⟨fun S => by simp -implicitDefEqProofs only [go_sem, Nat.reduceLT, Nat.reduceAdd, Nat.reduceSub, Nat.reduceMul, Nat.reduceEqDiff, Nat.reduceBEq, Nat.reduceLeDiff, Int.reduceToNat, Int.reduceLT, Int.reduceLE, Int.reduceEq, reduceCtorEq, ↓reduceIte], fun _ _ _ _ _ _ => by simp -implicitDefEqProofs only [go_sem, Nat.reduceLT, Nat.reduceAdd, Nat.reduceSub, Nat.reduceMul, Nat.reduceEqDiff, Nat.reduceBEq, Nat.reduceLeDiff, Int.reduceToNat, Int.reduceLT, Int.reduceLE, Int.reduceEq, reduceCtorEq, ↓reduceIte]⟩, fun y0 r h => ⟨fun S => by simp -implicitDefEqProofs only [go_sem, Nat.reduceLT, Nat.reduceAdd, Nat.reduceSub, Nat.reduceMul, Nat.reduceEqDiff, Nat.reduceBEq, Nat.reduceLeDiff, Int.reduceToNat, Int.reduceLT, Int.reduceLE, Int.reduceEq, reduceCtorEq, ↓reduceIte, e52 y0 a2 a0 r h], fun S => by simp -implicitDefEqProofs only [go_sem, Nat.reduceLT, Nat.reduceAdd, Nat.reduceSub, Nat.reduceMul, Nat.reduceEqDiff, Nat.reduceBEq, Nat.reduceLeDiff, Int.reduceToNat, Int.reduceLT, Int.reduceLE, Int.reduceEq, reduceCtorEq, ↓reduceIte, e52 y0 a2 a0 r h]⟩⟩ r3 q1
  try simp -implicitDefEqProofs only [go_sem, Nat.reduceLT, Nat.reduceAdd, Nat.reduceSub, Nat.reduceMul, Nat.reduceEqDiff, Nat.reduceBEq, Nat.reduceLeDiff, Int.reduceToNat, Int.reduceLT, Int.reduceLE, Int.reduceEq, reduceCtorEq, ↓reduceIte] at w2
  cases h
  simp -implicitDefEqProofs only [go_sem, Nat.reduceLT, Nat.reduceAdd, Nat.reduceSub, Nat.reduceMul, Nat.reduceEqDiff, Nat.reduceBEq, Nat.reduceLeDiff, Int.reduceToNat, Int.reduceLT, Int.reduceLE, Int.reduceEq, reduceCtorEq, ↓reduceIte, i50, c50, w2]
-- f21 impl.NoRing
theorem call21 (args : List AV) (S : St) : evCall T (evFL T) 21 args S = lendC (evFL T 21) S (lendAll S [[0], [3]] args) := evCall0 fn21 rfl rfl args S
theorem callz21 (args : List AV) (S : St) : evCallFz T (evFL T) 21 args S = lendZ (evFL T 21) S [[0], [0]] (lendAll S [[0], [3]] args) := evCallFz0 fn21 rfl rfl args S
attribute [go_sem] call21 callz21
noncomputable def X21_1 (p5 : Int) (a1 : (List Rel)) (o : (List Int)) : Ex × Fr × St :=
  (.exit 0, frOf 37 (upd (upd anyF 3 (.ptr 0 0 0)) 6 (.ptr 1 0 0)), [some ⟨.box, 1, [[.ts .imm 3 (a1.map encRel)]]⟩, some ⟨.box, 1, [[.sl 2 0 o.length]]⟩, some ⟨.arr, 1, o.map encInt⟩])
noncomputable def E21_1 (p5 : Int) (a1 : (List Rel)) (s : (Int × List Int)) : Fr × St := (frOf 37 (upd (upd (upd (upd anyF 3 (.ptr 0 0 0)) 6 (.ptr 1 0 0)) 15 (.int .i64 p5)) 16 (.int .i64 s.1)), [some ⟨.box, 1, [[.ts .imm 3 (a1.map encRel)]]⟩, some ⟨.box, 1, [[.sl 2 0 s.2.length]]⟩, some ⟨.arr, 1, s.2.map encInt⟩])
theorem b21_1 (p5 : Int) (a1 : (List Rel)) (s : (Int × List Int)) (o : Ctl (Int × List Int) (List Int)) (h : m21_1b p5 s = some o) : evCL T 0 k21_1b (E21_1 p5 a1 s).1 (E21_1 p5 a1 s).2 = some (ctlX (E21_1 p5 a1) (X21_1 p5 a1) o) := by
  unfold m21_1b at h
  obtain ⟨s7, s8⟩ := s
  replace h := sel2_some h
  try simp -implicitDefEqProofs only [go_sem, Nat.reduceLT, Nat.reduceAdd, Nat.reduceSub, Nat.reduceMul, Nat.reduceEqDiff, Nat.reduceBEq, Nat.reduceLeDiff, Int.reduceToNat, Int.reduceLT, Int.reduceLE, Int.reduceEq, reduceCtorEq, ↓reduceIte, E21_1, X21_1, k21_1b]
  cases b9 : (ltI s7 p5 : Bool)
  · replace h := br_f b9 h
    cases h
    simp -implicitDefEqProofs only [go_sem, Nat.reduceLT, Nat.reduceAdd, Nat.reduceSub, Nat.reduceMul, Nat.reduceEqDiff, Nat.reduceBEq, Nat.reduceLeDiff, Int.reduceToNat, Int.reduceLT, Int.reduceLE, Int.reduceEq, reduceCtorEq, ↓reduceIte, E21_1, X21_1, k21_1b, b9]
  · replace h := br_t b9 h
    obtain ⟨g10, h⟩ := ck_some h
    try simp -implicitDefEqProofs only [go_sem, Nat.reduceLT, Nat.reduceAdd, Nat.reduceSub, Nat.reduceMul, Nat.reduceEqDiff, Nat.reduceBEq, Nat.reduceLeDiff, Int.reduceToNat, Int.reduceLT, Int.reduceLE, Int.reduceEq, reduceCtorEq, ↓reduceIte] at g10
    cases h
    simp -implicitDefEqProofs only [go_sem, Nat.reduceLT, Nat.reduceAdd, Nat.reduceSub, Nat.reduceMul, Nat.reduceEqDiff, Nat.reduceBEq, Nat.reduceLeDiff, Int.reduceToNat, Int.reduceLT, Int.reduceLE, Int.reduceEq, reduceCtorEq, ↓reduceIte, E21_1, X21_1, k21_1b, b9, g10]
theorem e21_1 (p5 : Int) (a1 : (List Rel)) (s : (Int × List Int)) (o : (List Int)) (h : loopP (m21_1b p5) s = some o) : evCL T 0 (.loop k21_1b) (E21_1 p5 a1 s).1 (E21_1 p5 a1 s).2 = some (X21_1 p5 a1 o) :=
  loop_walk (E := E21_1 p5 a1) (X := X21_1 p5 a1) (by intro b; (simp only [X21_1]; nofun)) (b21_1 p5 a1) s o h
noncomputable def X21_2 (a1 : (List Rel)) (o : Bool) : Ex × Fr × St :=
  (.ret, frOf 37 (upd (upd anyF 4 (.bool o)) 5 (.bool true)), [])
noncomputable def E21_2 (a1 : (List Rel)) (s : List Int) : Fr × St := (frOf 37 (upd (upd anyF 3 (.ptr 0 0 0)) 6 (.ptr 1 0 0)), [some ⟨.box, 1, [[.ts .imm 3 (a1.map encRel)]]⟩, some ⟨.box, 1, [[.sl 2 0 s.length]]⟩, some ⟨.arr, 1, s.map encInt⟩])
theorem b21_2 (a1 : (List Rel)) (s : List Int) (o : Ctl (List Int) Bool) (h : m21_2b a1 s = some o) : evCL T 0 k21_2b (E21_2 a1 s).1 (E21_2 a1 s).2 = some (ctlX (E21_2 a1) (X21_2 a1) o) := by
  unfold m21_2b at h
  revert h
  generalize s = s21
  intro h
  obtain ⟨r24, q22, h⟩ := bnd_some h
  have w23 := e49 s21 r24 q22
  try simp -implicitDefEqProofs only [go_sem, Nat.reduceLT, Nat.reduceAdd, Nat.reduceSub, Nat.reduceMul, Nat.reduceEqDiff, Nat.reduceBEq, Nat.reduceLeDiff, Int.reduceToNat, Int.reduceLT, Int.reduceLE, Int.reduceEq, reduceCtorEq, ↓reduceIte] at w23
  obtain ⟨r27, q25, h⟩ := bnd_some h
  have w26 := e48 r24 (fun y0 => m50 y0 s21 a1) 50 [.tp .imm 1 [[.ts .imm 1 (s21.map encInt)]] 0 0, .tp .imm 1 [[.ts .imm 3 (a1.map encRel)]] 0 0] ⟨⟨fun S => by simp -implicitDefEqProofs only [go_sem, Nat.reduceLT, Nat.reduceAdd, Nat.reduceSub, Nat.reduceMul, Nat.reduceEqDiff, Nat.reduceBEq, Nat.reduceLeDiff, Int.reduceToNat, Int.reduceLT, Int.reduceLE, Int.reduceEq, reduceCtorEq, ↓reduceIte], fun _ _ _ _ _ _ => by simp -implicitDefEqProofs only [go_sem, Nat.reduceLT, Nat.reduceAdd, Nat.reduceSub, Nat.reduceMul, Nat.reduceEqDiff, Nat.reduceBEq, Nat.reduceLeDiff, Int.reduceToNat, Int.reduceLT, Int.reduceLE, Int.reduceEq, reduceCtorEq, ↓reduceIte]⟩, fun y0 r h => ⟨fun S => by simp -implicitDefEqProofs only [go_sem, Nat.reduceLT, Nat.reduceAdd, Nat.reduceSub, Nat.reduceMul, Nat.reduceEqDiff, Nat.reduceBEq, Nat.reduceLeDiff, Int.reduceToNat, Int.reduceLT, Int.reduceLE, Int.reduceEq, reduceCtorEq, ↓reduceIte, e50 y0 s21 a1 r h], fun S => by simp -implicitDefEqProofs only [go_sem, Nat.reduceLT, Nat.reduceAdd, Nat.reduceSub, Nat.reduceMul, Nat.reduceEqDiff, Nat.reduceBEq, Nat.reduceLeDiff, Int.reduceToNat, Int.reduceLT, Int.reduceLE, Int.reduceEq, reduceCtorEq, ↓reduceIte, e50 y0 s21 a1 r h]⟩⟩ r27 q25
  try simp -implicitDefEqProofs only [go_sem, Nat.reduceLT, Nat.reduceAdd, Nat.reduceSub, Nat.reduceMul, Nat.reduceEqDiff, Nat.reduceBEq, Nat.reduceLeDiff, Int.reduceToNat, Int.reduceLT, Int.reduceLE, Int.reduceEq, reduceCtorEq, ↓reduceIte] at w26
  try simp -implicitDefEqProofs only [go_sem, Nat.reduceLT, Nat.reduceAdd, Nat.reduceSub, Nat.reduceMul, Nat.reduceEqDiff, Nat.reduceBEq, Nat.reduceLeDiff, Int.reduceToNat, Int.reduceLT, Int.reduceLE, Int.reduceEq, reduceCtorEq, ↓reduceIte, E21_2, X21_2, k21_2b, w23, w26]
  cases b28 : (eqI (↑r27.length : Int) (↑s21.length : Int) : Bool)
  · replace h := br_f b28 h
    cases h
    simp -implicitDefEqProofs only [go_sem, Nat.reduceLT, Nat.reduceAdd, Nat.reduceSub, Nat.reduceMul, Nat.reduceEqDiff, Nat.reduceBEq, Nat.reduceLeDiff, Int.reduceToNat, Int.reduceLT, Int.reduceLE, Int.reduceEq, reduceCtorEq, ↓reduceIte, E21_2, X21_2, k21_2b, w23, w26, b28]
  · replace h := br_t b28 h
    cases h
    simp -implicitDefEqProofs only [go_sem, Nat.reduceLT, Nat.reduceAdd, Nat.reduceSub, Nat.reduceMul, Nat.reduceEqDiff, Nat.reduceBEq, Nat.reduceLeDiff, Int.reduceToNat, Int.reduceLT, Int.reduceLE, Int.reduceEq, reduceCtorEq, ↓reduceIte, E21_2, X21_2, k21_2b, w23, w26, b28]
theorem e21_2 (a1 : (List Rel)) (s : List Int) (o : Bool) (h : loopP (m21_2b a1) s = some o) : evCL T 0 (.loop k21_2b) (E21_2 a1 s).1 (E21_2 a1 s).2 = some (X21_2 a1 o) :=
  loop_walk (E := E21_2 a1) (X := X21_2 a1) (by intro b; (simp only [X21_2]; nofun)) (b21_2 a1) s o h
theorem e21 (a0 : Int) (a1 : (List Rel)) (r : (Bool × Bool)) (h : m21 a0 a1 = some r) : evFL T 21 [.int .i64 a0, .ts .imm 3 (a1.map encRel)] [] = some (.tup [.bool r.1, .bool r.2], []) := by
  unfold m21 at h
  rw [evFL_at fn21 (Nat.le_of_ble_eq_true rfl) rfl (.inr rfl)]
  obtain ⟨r3, q1, h⟩ := bnd_some h
  have w2 := e14 a0 a1 r3 q1
  try simp -implicitDefEqProofs only [go_sem, Nat.reduceLT, Nat.reduceAdd, Nat.reduceSub, Nat.reduceMul, Nat.reduceEqDiff, Nat.reduceBEq, Nat.reduceLeDiff, Int.reduceToNat, Int.reduceLT, Int.reduceLE, Int.reduceEq, reduceCtorEq, ↓reduceIte] at w2
  try simp -implicitDefEqProofs only [go_sem, Nat.reduceLT, Nat.reduceAdd, Nat.reduceSub, Nat.reduceMul, Nat.reduceEqDiff, Nat.reduceBEq, Nat.reduceLeDiff, Int.reduceToNat, Int.reduceLT, Int.reduceLE, Int.reduceEq, reduceCtorEq, ↓reduceIte, i21, c21, w2]
  cases b4 : (r3 : Bool)
  · replace h := br_f b4 h
    cases h
    simp -implicitDefEqProofs only [go_sem, Nat.reduceLT, Nat.reduceAdd, Nat.reduceSub, Nat.reduceMul, Nat.reduceEqDiff, Nat.reduceBEq, Nat.reduceLeDiff, Int.reduceToNat, Int.reduceLT, Int.reduceLE, Int.reduceEq, reduceCtorEq, ↓reduceIte, i21, c21, w2, b4]
  · replace h := br_t b4 h
    obtain ⟨v13, q11, h⟩ := bnd_some h
    have w12 := e21_1 (wadd .i64 a0 1) a1 (0, []) v13 q11
    simp only [E21_1, X21_1] at w12
    try simp -implicitDefEqProofs only [go_sem, Nat.reduceLT, Nat.reduceAdd, Nat.reduceSub, Nat.reduceMul, Nat.reduceEqDiff, Nat.reduceBEq, Nat.reduceLeDiff, Int.reduceToNat, Int.reduceLT, Int.reduceLE, Int.reduceEq, reduceCtorEq, ↓reduceIte] at w12
    obtain ⟨v31, q29, h⟩ := bnd_some h
    have w30 := e21_2 a1 v13 v31 q29
    simp only [E21_2, X21_2] at w30
    try simp -implicitDefEqProofs only [go_sem, Nat.reduceLT, Nat.reduceAdd, Nat.reduceSub, Nat.reduceMul, Nat.reduceEqDiff, Nat.reduceBEq, Nat.reduceLeDiff, Int.reduceToNat, Int.reduceLT, Int.reduceLE, Int.reduceEq, reduceCtorEq, ↓reduceIte] at w30
    cases h
    simp -implicitDefEqProofs only [go_sem, Nat.reduceLT, Nat.reduceAdd, Nat.reduceSub, Nat.reduceMul, Nat.reduceEqDiff, Nat.reduceBEq, Nat.reduceLeDiff, Int.reduceToNat, Int.reduceLT, Int.reduceLE, Int.reduceEq, reduceCtorEq, ↓reduceIte, i21, c21, w2, b4, w12, w30]
-- f44 laws.eqRel
theorem call44 (args : List AV) (S : St) : evCall T (evFL T) 44 args S = lendC (evFL T 44) S (lendAll S [[0, 0, 0], [0, 0, 0]] args) := evCall0 fn44 rfl rfl args S
theorem callz44 (args : List AV) (S : St) : evCallFz T (evFL T) 44 args S = lendZ (evFL T 44) S [[0]] (lendAll S [[0, 0, 0], [0, 0, 0]] args) := evCallFz0 fn44 rfl rfl args S
attribute [go_sem] call44 callz44
theorem e44 (a0 : Rel) (a1 : Rel) (r : Bool) (h : m44 a0 a1 = some r) : evFL T 44 [.agg [.int .i64 a0.a, .int .i64 a0.b, .int .i64 a0.kind], .agg [.int .i64 a1.a, .int .i64 a1.b, .int .i64 a1.kind]] [] = some (.bool r, []) := by
  unfold m44 at h
  rw [evFL_at fn44 (Nat.le_of_ble_eq_true rfl) rfl (.inr rfl)]
  try simp -implicitDefEqProofs only [go_sem, Nat.reduceLT, Nat.reduceAdd, Nat.reduceSub, Nat.reduceMul, Nat.reduceEqDiff, Nat.reduceBEq, Nat.reduceLeDiff, Int.reduceToNat, Int.reduceLT, Int.reduceLE, Int.reduceEq, reduceCtorEq, ↓reduceIte, i44, c44]
  cases b1 : (eqI a0.a a1.a : Bool)
  · replace h := br_f b1 h
    cases h
    simp -implicitDefEqProofs only [go_sem, Nat.reduceLT, Nat.reduceAdd, Nat.reduceSub, Nat.reduceMul, Nat.reduceEqDiff, Nat.reduceBEq, Nat.reduceLeDiff, Int.reduceToNat, Int.reduceLT, Int.reduceLE, Int.reduceEq, reduceCtorEq, ↓reduceIte, i44, c44, b1]
  · replace h := br_t b1 h
    try simp -implicitDefEqProofs only [go_sem, Nat.reduceLT, Nat.reduceAdd, Nat.reduceSub, Nat.reduceMul, Nat.reduceEqDiff, Nat.reduceBEq, Nat.reduceLeDiff, Int.reduceToNat, Int.reduceLT, Int.reduceLE, Int.reduceEq, reduceCtorEq, ↓reduceIte, i44, c44, b1]
    cases b2 : (eqI a0.b a1.b : Bool)
    · replace h := br_f b2 h
      cases h
      simp -implicitDefEqProofs only [go_sem, Nat.reduceLT, Nat.reduceAdd, Nat.reduceSub, Nat.reduceMul, Nat.reduceEqDiff, Nat.reduceBEq, Nat.reduceLeDiff, Int.reduceToNat, Int.reduceLT, Int.reduceLE, Int.reduceEq, reduceCtorEq, ↓reduceIte, i44, c44, b1, b2]
    · replace h := br_t b2 h
      try simp -implicitDefEqProofs only [go_sem, Nat.reduceLT, Nat.reduceAdd, Nat.reduceSub, Nat.reduceMul, Nat.reduceEqDiff, Nat.reduceBEq, Nat.reduceLeDiff, Int.reduceToNat, Int.reduceLT, Int.reduceLE, Int.reduceEq, reduceCtorEq, ↓reduceIte, i44, c44, b1, b2]
      cases b3 : (eqI a0.kind a1.kind : Bool)
      · replace h := br_f b3 h
        cases h
        simp -implicitDefEqProofs only [go_sem, Nat.reduceLT, Nat.reduceAdd, Nat.reduceSub, Nat.reduceMul, Nat.reduceEqDiff, Nat.reduceBEq, Nat.reduceLeDiff, Int.reduceToNat, Int.reduceLT, Int.reduceLE, Int.reduceEq, reduceCtorEq, ↓reduceIte, i44, c44, b1, b2, b3]
      · replace h := br_t b3 h
        cases h
        simp -implicitDefEqProofs only [go_sem, Nat.reduceLT, Nat.reduceAdd, Nat.reduceSub, Nat.reduceMul, Nat.reduceEqDiff, Nat.reduceBEq, Nat.reduceLeDiff, Int.reduceToNat, Int.reduceLT, Int.reduceLE, Int.reduceEq, reduceCtorEq, ↓reduceIte, i44, c44, b1, b2, b3]
-- f15 laws.eqRelS
theorem call15 (args : List AV) (S : St) : evCall T (evFL T) 15 args S = lendC (evFL T 15) S (lendAll S [[3], [3]] args) := evCall0 fn15 rfl rfl args S
theorem callz15 (args : List AV) (S : St) : evCallFz T (evFL T) 15 args S = lendZ (evFL T 15) S [[0]] (lendAll S [[3], [3]] args) := evCallFz0 fn15 rfl rfl args S
attribute [go_sem] call15 callz15
noncomputable def X15_1 (a0 : (List Rel)) (a1 : (List Rel)) (o : (Unit ⊕ Unit)) : Ex × Fr × St :=
  match o with
  | .inl o => (.exit 0, frOf 27 (anyF), [])
  | .inr o => (.ret, frOf 27 (upd anyF 4 (.bool false)), [])
noncomputable def E15_1 (a0 : (List Rel)) (a1 : (List Rel)) (s : Int) : Fr × St := (frOf 27 (upd (upd (upd anyF 0 (.ts .imm 3 (a0.map encRel))) 1 (.ts .imm 3 (a1.map encRel))) 5 (.int .i64 s)), [])
theorem b15_1 (a0 : (List Rel)) (a1 : (List Rel)) (s : Int) (o : Ctl Int (Unit ⊕ Unit)) (h : m15_1b a0 a1 s = some o) : evCL T 0 k15_1b (E15_1 a0 a1 s).1 (E15_1 a0 a1 s).2 = some (ctlX (E15_1 a0 a1) (X15_1 a0 a1) o) := by
  unfold m15_1b at h
  revert h
  generalize s = s17
  intro h
  try simp -implicitDefEqProofs only [go_sem, Nat.reduceLT, Nat.reduceAdd, Nat.reduceSub, Nat.reduceMul, Nat.reduceEqDiff, Nat.reduceBEq, Nat.reduceLeDiff, Int.reduceToNat, Int.reduceLT, Int.reduceLE, Int.reduceEq, reduceCtorEq, ↓reduceIte, E15_1, X15_1, k15_1b]
  cases b18 : (ltI s17 (↑a0.length : Int) : Bool)
  · replace h := br_f b18 h
    cases h
    simp -implicitDefEqProofs only [go_sem, Nat.reduceLT, Nat.reduceAdd, Nat.reduceSub, Nat.reduceMul, Nat.reduceEqDiff, Nat.reduceBEq, Nat.reduceLeDiff, Int.reduceToNat, Int.reduceLT, Int.reduceLE, Int.reduceEq, reduceCtorEq, ↓reduceIte, E15_1, X15_1, k15_1b, b18]
  · replace h := br_t b18 h
    obtain ⟨x19, q20, h⟩ := bnd_some h
    obtain ⟨g21, g22, g23⟩ := idx_row encRel q20
    try simp -implicitDefEqProofs only [go_sem, Nat.reduceLT, Nat.reduceAdd, Nat.reduceSub, Nat.reduceMul, Nat.reduceEqDiff, Nat.reduceBEq, Nat.reduceLeDiff, Int.reduceToNat, Int.reduceLT, Int.reduceLE, Int.reduceEq, reduceCtorEq, ↓reduceIte] at g22
    try simp -implicitDefEqProofs only [go_sem, Nat.reduceLT, Nat.reduceAdd, Nat.reduceSub, Nat.reduceMul, Nat.reduceEqDiff, Nat.reduceBEq, Nat.reduceLeDiff, Int.reduceToNat, Int.reduceLT, Int.reduceLE, Int.reduceEq, reduceCtorEq, ↓reduceIte] at g23
    obtain ⟨x24, q25, h⟩ := bnd_some h
    obtain ⟨g26, g27, g28⟩ := idx_row encRel q25
    try simp -implicitDefEqProofs only [go_sem, Nat.reduceLT, Nat.reduceAdd, Nat.reduceSub, Nat.reduceMul, Nat.reduceEqDiff, Nat.reduceBEq, Nat.reduceLeDiff, Int.reduceToNat, Int.reduceLT, Int.reduceLE, Int.reduceEq, reduceCtorEq, ↓reduceIte] at g27
    try simp -implicitDefEqProofs only [go_sem, Nat.reduceLT, Nat.reduceAdd, Nat.reduceSub, Nat.reduceMul, Nat.reduceEqDiff, Nat.reduceBEq, Nat.reduceLeDiff, Int.reduceToNat, Int.reduceLT, Int.reduceLE, Int.reduceEq, reduceCtorEq, ↓reduceIte] at g28
    obtain ⟨r31, q29, h⟩ := bnd_some h
    have w30 := e44 x19 x24 r31 q29
    try simp -implicitDefEqProofs only [go_sem, Nat.reduceLT, Nat.reduceAdd, Nat.reduceSub, Nat.reduceMul, Nat.reduceEqDiff, Nat.reduceBEq, Nat.reduceLeDiff, Int.reduceToNat, Int.reduceLT, Int.reduceLE, Int.reduceEq, reduceCtorEq, ↓reduceIte] at w30
    try simp -implicitDefEqProofs only [go_sem, Nat.reduceLT, Nat.reduceAdd, Nat.reduceSub, Nat.reduceMul, Nat.reduceEqDiff, Nat.reduceBEq, Nat.reduceLeDiff, Int.reduceToNat, Int.reduceLT, Int.reduceLE, Int.reduceEq, reduceCtorEq, ↓reduceIte, E15_1, X15_1, k15_1b, b18, g21, g22, g23, g26, g27, g28, w30]
    cases b32 : (r31 : Bool)
    · replace h := br_f b32 h
      cases h
      simp -implicitDefEqProofs only [go_sem, Nat.reduceLT, Nat.reduceAdd, Nat.reduceSub, Nat.reduceMul, Nat.reduceEqDiff, Nat.reduceBEq, Nat.reduceLeDiff, Int.reduceToNat, Int.reduceLT, Int.reduceLE, Int.reduceEq, reduceCtorEq, ↓reduceIte, E15_1, X15_1, k15_1b, b18, g21, g22, g23, g26, g27, g28, w30, b32]
    · replace h := br_t b32 h
      cases h
      simp -implicitDefEqProofs only [go_sem, Nat.reduceLT, Nat.reduceAdd, Nat.reduceSub, Nat.reduceMul, Nat.reduceEqDiff, Nat.reduceBEq, Nat.reduceLeDiff, Int.reduceToNat, Int.reduceLT, Int.reduceLE, Int.reduceEq, reduceCtorEq, ↓reduceIte, E15_1, X15_1, k15_1b, b18, g21, g22, g23, g26, g27, g28, w30, b32]
theorem e15_1 (a0 : (List Rel)) (a1 : (List Rel)) (s : Int) (o : (Unit ⊕ Unit)) (h : loopP (m15_1b a0 a1) s = some o) : evCL T 0 (.loop k15_1b) (E15_1 a0 a1 s).1 (E15_1 a0 a1 s).2 = some (X15_1 a0 a1 o) :=
  loop_walk (E := E15_1 a0 a1) (X := X15_1 a0 a1) (by intro b; rcases b with b | b <;> (simp only [X15_1]; nofun)) (b15_1 a0 a1) s o h
theorem e15 (a0 : (List Rel)) (a1 : (List Rel)) (r : Bool) (h : m15 a0 a1 = some r) : evFL T 15 [.ts .imm 3 (a0.map encRel), .ts .imm 3 (a1.map encRel)] [] = some (.bool r, []) := by
  unfold m15 at h
  rw [evFL_at fn15 (Nat.le_of_ble_eq_true rfl) rfl (.inr rfl)]
  try simp -implicitDefEqProofs only [go_sem, Nat.reduceLT, Nat.reduceAdd, Nat.reduceSub, Nat.reduceMul, Nat.reduceEqDiff, Nat.reduceBEq, Nat.reduceLeDiff, Int.reduceToNat, Int.reduceLT, Int.reduceLE, Int.reduceEq, reduceCtorEq, ↓reduceIte, i15, c15]
  cases b1 : (eqI (↑a0.length : Int) (↑a1.length : Int) : Bool)
  · replace h := br_f b1 h
    cases h
    simp -implicitDefEqProofs only [go_sem, Nat.reduceLT, Nat.reduceAdd, Nat.reduceSub, Nat.reduceMul, Nat.reduceEqDiff, Nat.reduceBEq, Nat.reduceLeDiff, Int.reduceToNat, Int.reduceLT, Int.reduceLE, Int.reduceEq, reduceCtorEq, ↓reduceIte, i15, c15, b1]
  · replace h := br_t b1 h
    try simp -implicitDefEqProofs only [go_sem, Nat.reduceLT, Nat.reduceAdd, Nat.reduceSub, Nat.reduceMul, Nat.reduceEqDiff, Nat.reduceBEq, Nat.reduceLeDiff, Int.reduceToNat, Int.reduceLT, Int.reduceLE, Int.reduceEq, reduceCtorEq, ↓reduceIte, i15, c15, b1]
    obtain ⟨o, q33, h⟩ := bnd_some h
    rcases o with ⟨⟩ | ⟨⟩
    · replace h := selS_l h
      have w34 := e15_1 a0 a1 0 (.inl ()) q33
      simp only [E15_1, X15_1] at w34
      try simp -implicitDefEqProofs only [go_sem, Nat.reduceLT, Nat.reduceAdd, Nat.reduceSub, Nat.reduceMul, Nat.reduceEqDiff, Nat.reduceBEq, Nat.reduceLeDiff, Int.reduceToNat, Int.reduceLT, Int.reduceLE, Int.reduceEq, reduceCtorEq, ↓reduceIte] at w34
      cases h
      simp -implicitDefEqProofs only [go_sem, Nat.reduceLT, Nat.reduceAdd, Nat.reduceSub, Nat.reduceMul, Nat.reduceEqDiff, Nat.reduceBEq, Nat.reduceLeDiff, Int.reduceToNat, Int.reduceLT, Int.reduceLE, Int.reduceEq, reduceCtorEq, ↓reduceIte, i15, c15, b1, w34]
    · replace h := selS_r h
      have w34 := e15_1 a0 a1 0 (.inr ()) q33
      simp only [E15_1, X15_1] at w34
      try simp -implicitDefEqProofs only [go_sem, Nat.reduceLT, Nat.reduceAdd, Nat.reduceSub, Nat.reduceMul, Nat.reduceEqDiff, Nat.reduceBEq, Nat.reduceLeDiff, Int.reduceToNat, Int.reduceLT, Int.reduceLE, Int.reduceEq, reduceCtorEq, ↓reduceIte] at w34
      cases h
      simp -implicitDefEqProofs only [go_sem, Nat.reduceLT, Nat.reduceAdd, Nat.reduceSub, Nat.reduceMul, Nat.reduceEqDiff, Nat.reduceBEq, Nat.reduceLeDiff, Int.reduceToNat, Int.reduceLT, Int.reduceLE, Int.reduceEq, reduceCtorEq, ↓reduceIte, i15, c15, b1, w34]
-- f6 laws.FnExactNoRing
theorem call6 (args : List AV) (S : St) : evCall T (evFL T) 6 args S = lendC (evFL T 6) S (lendAll S [[0], [3]] args) := evCall0 fn6 rfl rfl args S
theorem callz6 (args : List AV) (S : St) : evCallFz T (evFL T) 6 args S = lendZ (evFL T 6) S [[0]] (lendAll S [[0], [3]] args) := evCallFz0 fn6 rfl rfl args S
attribute [go_sem] call6 callz6
noncomputable def X6_1 (a1 : (List Rel)) (r10 : Bool) (r11 : Bool) (r16 : Bool) (r17 : Bool) (r7 : (List Rel)) (o : Bool) : Ex × Fr × St :=
  (.normal, frOf 44 (upd (upd (upd anyF 1 (.ts .imm 3 (a1.map encRel))) 8 (.sl 0 0 r7.length)) 38 (.bool o)), [some ⟨.arr, 3, r7.map encRel⟩])
theorem e6_1 (a1 : (List Rel)) (r10 : Bool) (r11 : Bool) (r16 : Bool) (r17 : Bool) (r7 : (List Rel)) (o : Bool) (h : m6_1 r10 r11 r16 r17 = some o) : evCL T 0 k6_1 (frOf 44 (upd (upd (upd (upd (upd (upd anyF 1 (.ts .imm 3 (a1.map encRel))) 6 (.bool r10)) 7 (.bool r11)) 8 (.sl 0 0 r7.length)) 9 (.bool r16)) 10 (.bool r17))) [some ⟨.arr, 3, r7.map encRel⟩] = some (X6_1 a1 r10 r11 r16 r17 r7 o) := by
  unfold m6_1 at h
  try simp -implicitDefEqProofs only [go_sem, Nat.reduceLT, Nat.reduceAdd, Nat.reduceSub, Nat.reduceMul, Nat.reduceEqDiff, Nat.reduceBEq, Nat.reduceLeDiff, Int.reduceToNat, Int.reduceLT, Int.reduceLE, Int.reduceEq, reduceCtorEq, ↓reduceIte, X6_1, k6_1]
  cases b18 : (eqB r16 r10 : Bool)
  · replace h := br_f b18 h
    cases h
    simp -implicitDefEqProofs only [go_sem, Nat.reduceLT, Nat.reduceAdd, Nat.reduceSub, Nat.reduceMul, Nat.reduceEqDiff, Nat.reduceBEq, Nat.reduceLeDiff, Int.reduceToNat, Int.reduceLT, Int.reduceLE, Int.reduceEq, reduceCtorEq, ↓reduceIte, X6_1, k6_1, b18]
  · replace h := br_t b18 h
    cases h
    simp -implicitDefEqProofs only [go_sem, Nat.reduceLT, Nat.reduceAdd, Nat.reduceSub, Nat.reduceMul, Nat.reduceEqDiff, Nat.reduceBEq, Nat.reduceLeDiff, Int.reduceToNat, Int.reduceLT, Int.reduceLE, Int.reduceEq, reduceCtorEq, ↓reduceIte, X6_1, k6_1, b18]
theorem e6 (a0 : Int) (a1 : (List Rel)) (r : Bool) (h : m6 a0 a1 = some r) : evFL T 6 [.int .i64 a0, .ts .imm 3 (a1.map encRel)] [] = some (.bool r, []) := by
  unfold m6 at h
  rw [evFL_at fn6 (Nat.le_of_ble_eq_true rfl) rfl (.inr rfl)]
  obtain ⟨r3, q1, h⟩ := bnd_some h
  have w2 := e11 a1 1048576 r3 q1
  try simp -implicitDefEqProofs only [go_sem, Nat.reduceLT, Nat.reduceAdd, Nat.reduceSub, Nat.reduceMul, Nat.reduceEqDiff, Nat.reduceBEq, Nat.reduceLeDiff, Int.reduceToNat, Int.reduceLT, Int.reduceLE, Int.reduceEq, reduceCtorEq, ↓reduceIte] at w2
  try simp -implicitDefEqProofs only [go_sem, Nat.reduceLT, Nat.reduceAdd, Nat.reduceSub, Nat.reduceMul, Nat.reduceEqDiff, Nat.reduceBEq, Nat.reduceLeDiff, Int.reduceToNat, Int.reduceLT, Int.reduceLE, Int.reduceEq, reduceCtorEq, ↓reduceIte, i6, c6, w2]
  cases b4 : (ltI r3 0 : Bool)
  · replace h := br_f b4 h
    obtain ⟨r7, q5, h⟩ := bnd_some h
    have w6 := e13 a1 r7 q5
    try simp -implicitDefEqProofs only [go_sem, Nat.reduceLT, Nat.reduceAdd, Nat.reduceSub, Nat.reduceMul, Nat.reduceEqDiff, Nat.reduceBEq, Nat.reduceLeDiff, Int.reduceToNat, Int.reduceLT, Int.reduceLE, Int.reduceEq, reduceCtorEq, ↓reduceIte] at w6
    obtain ⟨⟨r10, r11⟩, q8, h⟩ := bnd_some h
    replace h := sel2_some h
    have w9 := e20 a0 r7 (r10, r11) q8
    try simp -implicitDefEqProofs only [go_sem, Nat.reduceLT, Nat.reduceAdd, Nat.reduceSub, Nat.reduceMul, Nat.reduceEqDiff, Nat.reduceBEq, Nat.reduceLeDiff, Int.reduceToNat, Int.reduceLT, Int.reduceLE, Int.reduceEq, reduceCtorEq, ↓reduceIte] at w9
    obtain ⟨⟨r16, r17⟩, q14, h⟩ := bnd_some h
    replace h := sel2_some h
    have w15 := e21 a0 r7 (r16, r17) q14
    try simp -implicitDefEqProofs only [go_sem, Nat.reduceLT, Nat.reduceAdd, Nat.reduceSub, Nat.reduceMul, Nat.reduceEqDiff, Nat.reduceBEq, Nat.reduceLeDiff, Int.reduceToNat, Int.reduceLT, Int.reduceLE, Int.reduceEq, reduceCtorEq, ↓reduceIte] at w15
    obtain ⟨v21, q19, h⟩ := bnd_some h
    have w20 := e6_1 a1 r10 r11 r16 r17 r7 v21 q19
    simp only [X6_1] at w20
    try simp -implicitDefEqProofs only [go_sem, Nat.reduceLT, Nat.reduceAdd, Nat.reduceSub, Nat.reduceMul, Nat.reduceEqDiff, Nat.reduceBEq, Nat.reduceLeDiff, Int.reduceToNat, Int.reduceLT, Int.reduceLE, Int.reduceEq, reduceCtorEq, ↓reduceIte] at w20
    try simp -implicitDefEqProofs only [go_sem, Nat.reduceLT, Nat.reduceAdd, Nat.reduceSub, Nat.reduceMul, Nat.reduceEqDiff, Nat.reduceBEq, Nat.reduceLeDiff, Int.reduceToNat, Int.reduceLT, Int.reduceLE, Int.reduceEq, reduceCtorEq, ↓reduceIte, i6, c6, w2, b4, w6, w9, w15, w20]
    cases b22 : (v21 : Bool)
    · replace h := br_f b22 h
      obtain ⟨r27, q25, h⟩ := bnd_some h
      have w26 := e15 r7 r7 r27 q25
      try simp -implicitDefEqProofs only [go_sem, Nat.reduceLT, Nat.reduceAdd, Nat.reduceSub, Nat.reduceMul, Nat.reduceEqDiff, Nat.reduceBEq, Nat.reduceLeDiff, Int.reduceToNat, Int.reduceLT, Int.reduceLE, Int.reduceEq, reduceCtorEq, ↓reduceIte] at w26
      try simp -implicitDefEqProofs only [go_sem, Nat.reduceLT, Nat.reduceAdd, Nat.reduceSub, Nat.reduceMul, Nat.reduceEqDiff, Nat.reduceBEq, Nat.reduceLeDiff, Int.reduceToNat, Int.reduceLT, Int.reduceLE, Int.reduceEq, reduceCtorEq, ↓reduceIte, i6, c6, w2, b4, w6, w9, w15, w20, b22, w26]
      cases b28 : (r27 : Bool)
      · replace h := br_f b28 h
        cases h
        simp -implicitDefEqProofs only [go_sem, Nat.reduceLT, Nat.reduceAdd, Nat.reduceSub, Nat.reduceMul, Nat.reduceEqDiff, Nat.reduceBEq, Nat.reduceLeDiff, Int.reduceToNat, Int.reduceLT, Int.reduceLE, Int.reduceEq, reduceCtorEq, ↓reduceIte, i6, c6, w2, b4, w6, w9, w15, w20, b22, w26, b28]
      · replace h := br_t b28 h
        cases h
        simp -implicitDefEqProofs only [go_sem, Nat.reduceLT, Nat.reduceAdd, Nat.reduceSub, Nat.reduceMul, Nat.reduceEqDiff, Nat.reduceBEq, Nat.reduceLeDiff, Int.reduceToNat, Int.reduceLT, Int.reduceLE, Int.reduceEq, reduceCtorEq, ↓reduceIte, i6, c6, w2, b4, w6, w9, w15, w20, b22, w26, b28]
    · replace h := br_t b22 h
      cases h
      simp -implicitDefEqProofs only [go_sem, Nat.reduceLT, Nat.reduceAdd, Nat.reduceSub, Nat.reduceMul, Nat.reduceEqDiff, Nat.reduceBEq, Nat.reduceLeDiff, Int.reduceToNat, Int.reduceLT, Int.reduceLE, Int.reduceEq, reduceCtorEq, ↓reduceIte, i6, c6, w2, b4, w6, w9, w15, w20, b22]
  · replace h := br_t b4 h
    cases h
    simp -implicitDefEqProofs only [go_sem, Nat.reduceLT, Nat.reduceAdd, Nat.reduceSub, Nat.reduceMul, Nat.reduceEqDiff, Nat.reduceBEq, Nat.reduceLeDiff, Int.reduceToNat, Int.reduceLT, Int.reduceLE, Int.reduceEq, reduceCtorEq, ↓reduceIte, i6, c6, w2, b4]
end Go.Pi.Ytichbkallidkcaa.NoRing
