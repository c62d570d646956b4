/- What functions of the program answer, and that the law answers true at every input; no condition -/
import Derived.Test.YtbohlpligkfkiaaBestToTabBestTo
import Derived.Test.YtbohlpligkfkiaaBestToModBestTo
set_option linter.all false
/- Functions of the program: that the code answers as the plain functions do. -/
namespace Go.Pi.Ytbohlpligkfkiaa.BestTo
open Go Go.Proofs Go.Pi
set_option maxRecDepth 100000
set_option linter.all false
noncomputable def encInt (x : Int) : List AV := [.int .i64 x]
attribute [go_sem] encInt
theorem sq_encInt (q : Ql) (x : Int) : setQL q (encInt x) = encInt x := by simp [encInt]
theorem sqm_encInt (q : Ql) (xs : List Int) : setQLL q (xs.map encInt) = xs.map encInt := by rw [setQLL_map]; exact List.map_congr_left (fun x _ => sq_encInt q x)
theorem ow_encInt (x : Int) : ownOnlyL (encInt x) = true := by simp [encInt, ownOnlyL, ownOnly, ownLL_map]
theorem owm_encInt (xs : List Int) : ownOnlyLL (xs.map encInt) = true := ownLL_map _ ow_encInt xs
theorem fi_encInt (x : Int) : fine.fineL (encInt x) = true := by simp [encInt, fine.fineL, fine, fineLL_map]
theorem fim_encInt (xs : List Int) : fine.fineLL (xs.map encInt) = true := fineLL_map _ fi_encInt xs
theorem nu_encInt (x : Int) : nude.nudeL (encInt x) = true := by simp [encInt, nude.nudeL, nude, nudeLL_map]
theorem num_encInt (xs : List Int) : nude.nudeLL (xs.map encInt) = true := nudeLL_map _ nu_encInt xs
theorem st_encInt (q : Ql) (xs : List Int) : (xs.map encInt).map (fun x => x.map (setTop q)) = xs.map encInt := by rw [List.map_map]; rfl
attribute [go_sem] st_encInt
attribute [simp] sqm_encInt ow_encInt owm_encInt fi_encInt fim_encInt nu_encInt num_encInt
attribute [go_sem] sqm_encInt owm_encInt fim_encInt num_encInt
noncomputable def encLInt (q : Ql) (x : (List Int)) : List AV := [.ts q 1 (x.map encInt)]
attribute [go_sem] encLInt
theorem sq_encLInt (q q1 : Ql) (x : (List Int)) : setQL q (encLInt q1 x) = encLInt q x := by simp [encLInt, sq_encInt]
theorem sqm_encLInt (q q1 : Ql) (xs : List (List Int)) : setQLL q (xs.map (encLInt q1)) = xs.map (encLInt q) := by rw [setQLL_map]; exact List.map_congr_left (fun x _ => sq_encLInt q q1 x)
theorem ow_encLInt (x : (List Int)) : ownOnlyL (encLInt .own x) = true := by simp [encLInt, ownOnlyL, ownOnly, ownLL_map]
theorem owm_encLInt (xs : List (List Int)) : ownOnlyLL (xs.map (encLInt .own)) = true := ownLL_map _ ow_encLInt xs
theorem fi_encLInt (x : (List Int)) : fine.fineL (encLInt .own x) = true := by simp [encLInt, fine.fineL, fine, fineLL_map]
theorem fim_encLInt (xs : List (List Int)) : fine.fineLL (xs.map (encLInt .own)) = true := fineLL_map _ fi_encLInt xs
theorem nu_encLInt (x : (List Int)) : nude.nudeL (encLInt .own x) = true := by simp [encLInt, nude.nudeL, nude, nudeLL_map]
theorem num_encLInt (xs : List (List Int)) : nude.nudeLL (xs.map (encLInt .own)) = true := nudeLL_map _ nu_encLInt xs
theorem st_encLInt (q q1 : Ql) (xs : List (List Int)) : (xs.map (encLInt q1)).map (fun x => x.map (setTop q)) = xs.map (encLInt q) := by rw [List.map_map]; rfl
attribute [go_sem] st_encLInt
attribute [simp] sqm_encLInt ow_encLInt owm_encLInt fi_encLInt fim_encLInt nu_encLInt num_encLInt
attribute [go_sem] sqm_encLInt owm_encLInt fim_encLInt num_encLInt
noncomputable def encLLInt (q : Ql) (x : (List (List Int))) : List AV := [.ts q 1 (x.map (encLInt q))]
attribute [go_sem] encLLInt
theorem sq_encLLInt (q q1 : Ql) (x : (List (List Int))) : setQL q (encLLInt q1 x) = encLLInt q x := by simp [encLLInt, sq_encLInt]
theorem sqm_encLLInt (q q1 : Ql) (xs : List (List (List Int))) : setQLL q (xs.map (encLLInt q1)) = xs.map (encLLInt q) := by rw [setQLL_map]; exact List.map_congr_left (fun x _ => sq_encLLInt q q1 x)
theorem ow_encLLInt (x : (List (List Int))) : ownOnlyL (encLLInt .own x) = true := by simp [encLLInt, ownOnlyL, ownOnly, ownLL_map]
theorem owm_encLLInt (xs : List (List (List Int))) : ownOnlyLL (xs.map (encLLInt .own)) = true := ownLL_map _ ow_encLLInt xs
theorem fi_encLLInt (x : (List (List Int))) : fine.fineL (encLLInt .own x) = true := by simp [encLLInt, fine.fineL, fine, fineLL_map]
theorem fim_encLLInt (xs : List (List (List Int))) : fine.fineLL (xs.map (encLLInt .own)) = true := fineLL_map _ fi_encLLInt xs
theorem nu_encLLInt (x : (List (List Int))) : nude.nudeL (encLLInt .own x) = true := by simp [encLLInt, nude.nudeL, nude, nudeLL_map]
theorem num_encLLInt (xs : List (List (List Int))) : nude.nudeLL (xs.map (encLLInt .own)) = true := nudeLL_map _ nu_encLLInt xs
attribute [simp] sqm_encLLInt ow_encLLInt owm_encLLInt fi_encLLInt fim_encLLInt nu_encLLInt num_encLLInt
attribute [go_sem] sqm_encLLInt owm_encLLInt fim_encLLInt num_encLLInt
noncomputable def encAlgebra (q : Ql) (x : Algebra) : List AV := [.int .i64 x.weights, .ts q 1 (x.apply.map (encLInt q))]
attribute [go_sem] encAlgebra
theorem sq_encAlgebra (q q1 : Ql) (x : Algebra) : setQL q (encAlgebra q1 x) = encAlgebra q x := by simp [encAlgebra, sq_encLInt]
theorem sqm_encAlgebra (q q1 : Ql) (xs : List Algebra) : setQLL q (xs.map (encAlgebra q1)) = xs.map (encAlgebra q) := by rw [setQLL_map]; exact List.map_congr_left (fun x _ => sq_encAlgebra q q1 x)
theorem ow_encAlgebra (x : Algebra) : ownOnlyL (encAlgebra .own x) = true := by simp [encAlgebra, ownOnlyL, ownOnly, ownLL_map]
theorem owm_encAlgebra (xs : List Algebra) : ownOnlyLL (xs.map (encAlgebra .own)) = true := ownLL_map _ ow_encAlgebra xs
theorem fi_encAlgebra (x : Algebra) : fine.fineL (encAlgebra .own x) = true := by simp [encAlgebra, fine.fineL, fine, fineLL_map]
theorem fim_encAlgebra (xs : List Algebra) : fine.fineLL (xs.map (encAlgebra .own)) = true := fineLL_map _ fi_encAlgebra xs
theorem nu_encAlgebra (x : Algebra) : nude.nudeL (encAlgebra .own x) = true := by simp [encAlgebra, nude.nudeL, nude, nudeLL_map]
theorem num_encAlgebra (xs : List Algebra) : nude.nudeLL (xs.map (encAlgebra .own)) = true := nudeLL_map _ nu_encAlgebra xs
attribute [simp] sqm_encAlgebra ow_encAlgebra owm_encAlgebra fi_encAlgebra fim_encAlgebra nu_encAlgebra num_encAlgebra
attribute [go_sem] sqm_encAlgebra owm_encAlgebra fim_encAlgebra num_encAlgebra
noncomputable def encArc (x : Arc) : List AV := [.int .i64 x.from_, .int .i64 x.to, .int .i64 x.label]
attribute [go_sem] encArc
theorem sq_encArc (q : Ql) (x : Arc) : setQL q (encArc x) = encArc x := by simp [encArc]
theorem sqm_encArc (q : Ql) (xs : List Arc) : setQLL q (xs.map encArc) = xs.map encArc := by rw [setQLL_map]; exact List.map_congr_left (fun x _ => sq_encArc q x)
theorem ow_encArc (x : Arc) : ownOnlyL (encArc x) = true := by simp [encArc, ownOnlyL, ownOnly, ownLL_map]
theorem owm_encArc (xs : List Arc) : ownOnlyLL (xs.map encArc) = true := ownLL_map _ ow_encArc xs
theorem fi_encArc (x : Arc) : fine.fineL (encArc x) = true := by simp [encArc, fine.fineL, fine, fineLL_map]
theorem fim_encArc (xs : List Arc) : fine.fineLL (xs.map encArc) = true := fineLL_map _ fi_encArc xs
theorem nu_encArc (x : Arc) : nude.nudeL (encArc x) = true := by simp [encArc, nude.nudeL, nude, nudeLL_map]
theorem num_encArc (xs : List Arc) : nude.nudeLL (xs.map encArc) = true := nudeLL_map _ nu_encArc xs
theorem st_encArc (q : Ql) (xs : List Arc) : (xs.map encArc).map (fun x => x.map (setTop q)) = xs.map encArc := by rw [List.map_map]; rfl
attribute [go_sem] st_encArc
attribute [simp] sqm_encArc ow_encArc owm_encArc fi_encArc fim_encArc nu_encArc num_encArc
attribute [go_sem] sqm_encArc owm_encArc fim_encArc num_encArc
noncomputable def encLArc (q : Ql) (x : (List Arc)) : List AV := [.ts q 3 (x.map encArc)]
attribute [go_sem] encLArc
theorem sq_encLArc (q q1 : Ql) (x : (List Arc)) : setQL q (encLArc q1 x) = encLArc q x := by simp [encLArc, sq_encArc]
theorem sqm_encLArc (q q1 : Ql) (xs : List (List Arc)) : setQLL q (xs.map (encLArc q1)) = xs.map (encLArc q) := by rw [setQLL_map]; exact List.map_congr_left (fun x _ => sq_encLArc q q1 x)
theorem ow_encLArc (x : (List Arc)) : ownOnlyL (encLArc .own x) = true := by simp [encLArc, ownOnlyL, ownOnly, ownLL_map]
theorem owm_encLArc (xs : List (List Arc)) : ownOnlyLL (xs.map (encLArc .own)) = true := ownLL_map _ ow_encLArc xs
theorem fi_encLArc (x : (List Arc)) : fine.fineL (encLArc .own x) = true := by simp [encLArc, fine.fineL, fine, fineLL_map]
theorem fim_encLArc (xs : List (List Arc)) : fine.fineLL (xs.map (encLArc .own)) = true := fineLL_map _ fi_encLArc xs
theorem nu_encLArc (x : (List Arc)) : nude.nudeL (encLArc .own x) = true := by simp [encLArc, nude.nudeL, nude, nudeLL_map]
theorem num_encLArc (xs : List (List Arc)) : nude.nudeLL (xs.map (encLArc .own)) = true := nudeLL_map _ nu_encLArc xs
theorem st_encLArc (q q1 : Ql) (xs : List (List Arc)) : (xs.map (encLArc q1)).map (fun x => x.map (setTop q)) = xs.map (encLArc q) := by rw [List.map_map]; rfl
attribute [go_sem] st_encLArc
attribute [simp] sqm_encLArc ow_encLArc owm_encLArc fi_encLArc fim_encLArc nu_encLArc num_encLArc
attribute [go_sem] sqm_encLArc owm_encLArc fim_encLArc num_encLArc
noncomputable def encBool (x : Bool) : List AV := [.bool x]
attribute [go_sem] encBool
theorem sq_encBool (q : Ql) (x : Bool) : setQL q (encBool x) = encBool x := by simp [encBool]
theorem sqm_encBool (q : Ql) (xs : List Bool) : setQLL q (xs.map encBool) = xs.map encBool := by rw [setQLL_map]; exact List.map_congr_left (fun x _ => sq_encBool q x)
theorem ow_encBool (x : Bool) : ownOnlyL (encBool x) = true := by simp [encBool, ownOnlyL, ownOnly, ownLL_map]
theorem owm_encBool (xs : List Bool) : ownOnlyLL (xs.map encBool) = true := ownLL_map _ ow_encBool xs
theorem fi_encBool (x : Bool) : fine.fineL (encBool x) = true := by simp [encBool, fine.fineL, fine, fineLL_map]
theorem fim_encBool (xs : List Bool) : fine.fineLL (xs.map encBool) = true := fineLL_map _ fi_encBool xs
theorem nu_encBool (x : Bool) : nude.nudeL (encBool x) = true := by simp [encBool, nude.nudeL, nude, nudeLL_map]
theorem num_encBool (xs : List Bool) : nude.nudeLL (xs.map encBool) = true := nudeLL_map _ nu_encBool xs
theorem st_encBool (q : Ql) (xs : List Bool) : (xs.map encBool).map (fun x => x.map (setTop q)) = xs.map encBool := by rw [List.map_map]; rfl
attribute [go_sem] st_encBool
attribute [simp] sqm_encBool ow_encBool owm_encBool fi_encBool fim_encBool nu_encBool num_encBool
attribute [go_sem] sqm_encBool owm_encBool fim_encBool num_encBool
noncomputable def encIntu64 (x : Int) : List AV := [.int .u64 x]
attribute [go_sem] encIntu64
theorem sq_encIntu64 (q : Ql) (x : Int) : setQL q (encIntu64 x) = encIntu64 x := by simp [encIntu64]
theorem sqm_encIntu64 (q : Ql) (xs : List Int) : setQLL q (xs.map encIntu64) = xs.map encIntu64 := by rw [setQLL_map]; exact List.map_congr_left (fun x _ => sq_encIntu64 q x)
theorem ow_encIntu64 (x : Int) : ownOnlyL (encIntu64 x) = true := by simp [encIntu64, ownOnlyL, ownOnly, ownLL_map]
theorem owm_encIntu64 (xs : List Int) : ownOnlyLL (xs.map encIntu64) = true := ownLL_map _ ow_encIntu64 xs
theorem fi_encIntu64 (x : Int) : fine.fineL (encIntu64 x) = true := by simp [encIntu64, fine.fineL, fine, fineLL_map]
theorem fim_encIntu64 (xs : List Int) : fine.fineLL (xs.map encIntu64) = true := fineLL_map _ fi_encIntu64 xs
theorem nu_encIntu64 (x : Int) : nude.nudeL (encIntu64 x) = true := by simp [encIntu64, nude.nudeL, nude, nudeLL_map]
theorem num_encIntu64 (xs : List Int) : nude.nudeLL (xs.map encIntu64) = true := nudeLL_map _ nu_encIntu64 xs
theorem st_encIntu64 (q : Ql) (xs : List Int) : (xs.map encIntu64).map (fun x => x.map (setTop q)) = xs.map encIntu64 := by rw [List.map_map]; rfl
attribute [go_sem] st_encIntu64
attribute [simp] sqm_encIntu64 ow_encIntu64 owm_encIntu64 fi_encIntu64 fim_encIntu64 nu_encIntu64 num_encIntu64
attribute [go_sem] sqm_encIntu64 owm_encIntu64 fim_encIntu64 num_encIntu64
-- f76 laws.szIntS
theorem call76 (args : List AV) (S : St) : evCall T (evFL T) 76 args S = lendC (evFL T 76) S (lendAll S [[1], [0]] args) := evCall0 fn76 rfl rfl rfl args S
theorem callz76 (args : List AV) (S : St) : evCallFz T (evFL T) 76 args S = lendZ (evFL T 76) S [[0]] (lendAll S [[1], [0]] args) := evCallFz0 fn76 rfl rfl rfl args S
theorem calls76 (args : List AV) (S : St) : evCall (T.at true) (evFL T) 76 args S = lendC (evFL T 76) S (lendAll S [[1], [0]] args) := evCall0 fns76 rfl rfl rfl args S
theorem callsz76 (args : List AV) (S : St) : evCallFz (T.at true) (evFL T) 76 args S = lendZ (evFL T 76) S [[0]] (lendAll S [[1], [0]] args) := evCallFz0 fns76 rfl rfl rfl args S
attribute [go_sem] call76 callz76 calls76 callsz76
theorem e76 (a0 : (List Int)) (a1 : Int) (r : Int) (h : m76 a0 a1 = some r) : evFL T 76 [.ts .imm 1 (a0.map encInt), .int .i64 a1] [] = some (.int .i64 r, []) := by
  unfold m76 at h
  rw [evFL_at fn76 (Nat.le_of_ble_eq_true rfl) rfl (.inr rfl) ⟨rfl, rfl⟩]
  try simp -implicitDefEqProofs only [go_sem, Nat.reduceLT, Nat.reduceAdd, Nat.reduceSub, Nat.reduceMul, Nat.reduceEqDiff, Nat.reduceBEq, Nat.reduceLeDiff, Int.reduceToNat, Int.reduceLT, Int.reduceLE, Int.reduceEq, reduceCtorEq, ↓reduceIte, i76, c76]
  cases b1 : (ltI (wsub .i64 a1 (↑a0.length : Int)) 0 : Bool)
  · replace h := br_f b1 h
    cases h
    simp -implicitDefEqProofs only [go_sem, Nat.reduceLT, Nat.reduceAdd, Nat.reduceSub, Nat.reduceMul, Nat.reduceEqDiff, Nat.reduceBEq, Nat.reduceLeDiff, Int.reduceToNat, Int.reduceLT, Int.reduceLE, Int.reduceEq, reduceCtorEq, ↓reduceIte, i76, c76, b1]
  · replace h := br_t b1 h
    cases h
    simp -implicitDefEqProofs only [go_sem, Nat.reduceLT, Nat.reduceAdd, Nat.reduceSub, Nat.reduceMul, Nat.reduceEqDiff, Nat.reduceBEq, Nat.reduceLeDiff, Int.reduceToNat, Int.reduceLT, Int.reduceLE, Int.reduceEq, reduceCtorEq, ↓reduceIte, i76, c76, b1]
-- f44 laws.szIntSS
theorem call44 (args : List AV) (S : St) : evCall T (evFL T) 44 args S = lendC (evFL T 44) S (lendAll S [[1], [0]] args) := evCall0 fn44 rfl rfl rfl args S
theorem callz44 (args : List AV) (S : St) : evCallFz T (evFL T) 44 args S = lendZ (evFL T 44) S [[0]] (lendAll S [[1], [0]] args) := evCallFz0 fn44 rfl rfl rfl args S
theorem calls44 (args : List AV) (S : St) : evCall (T.at true) (evFL T) 44 args S = lendC (evFL T 44) S (lendAll S [[1], [0]] args) := evCall0 fns44 rfl rfl rfl args S
theorem callsz44 (args : List AV) (S : St) : evCallFz (T.at true) (evFL T) 44 args S = lendZ (evFL T 44) S [[0]] (lendAll S [[1], [0]] args) := evCallFz0 fns44 rfl rfl rfl args S
attribute [go_sem] call44 callz44 calls44 callsz44
noncomputable def X44_1 (a0 : (List (List Int))) (o : (Int ⊕ Unit)) : Ex × Fr × St :=
  match o with
  | .inl o => (.exit 0, frOf 27 (upd anyF 1 (.int .i64 o)), [])
  | .inr o => (.ret, frOf 27 (upd anyF 4 (.int .i64 (-1))), [])
noncomputable def E44_1 (a0 : (List (List Int))) (s : (Int × Int)) : Fr × St := (frOf 27 (upd (upd (upd anyF 0 (.ts .imm 1 (a0.map (encLInt .imm)))) 1 (.int .i64 s.1)) 5 (.int .i64 s.2)), [])
theorem b44_1 (a0 : (List (List Int))) (s : (Int × Int)) (o : Ctl (Int × Int) (Int ⊕ Unit)) (h : m44_1b a0 s = some o) : evCL T 0 k44_1b (E44_1 a0 s).1 (E44_1 a0 s).2 = some (ctlX (E44_1 a0) (X44_1 a0) o) := by
  unfold m44_1b at h
  obtain ⟨s13, s14⟩ := s
  replace h := sel2_some h
  try simp -implicitDefEqProofs only [go_sem, Nat.reduceLT, Nat.reduceAdd, Nat.reduceSub, Nat.reduceMul, Nat.reduceEqDiff, Nat.reduceBEq, Nat.reduceLeDiff, Int.reduceToNat, Int.reduceLT, Int.reduceLE, Int.reduceEq, reduceCtorEq, ↓reduceIte, E44_1, X44_1, k44_1b]
  cases b15 : (ltI s14 (↑a0.length : Int) : Bool)
  · replace h := br_f b15 h
    cases h
    simp -implicitDefEqProofs only [go_sem, Nat.reduceLT, Nat.reduceAdd, Nat.reduceSub, Nat.reduceMul, Nat.reduceEqDiff, Nat.reduceBEq, Nat.reduceLeDiff, Int.reduceToNat, Int.reduceLT, Int.reduceLE, Int.reduceEq, reduceCtorEq, ↓reduceIte, E44_1, X44_1, k44_1b, b15]
  · replace h := br_t b15 h
    obtain ⟨x16, q17, h⟩ := bnd_some h
    obtain ⟨g18, g19, g20⟩ := idx_row (encLInt .imm) q17
    try simp -implicitDefEqProofs only [go_sem, Nat.reduceLT, Nat.reduceAdd, Nat.reduceSub, Nat.reduceMul, Nat.reduceEqDiff, Nat.reduceBEq, Nat.reduceLeDiff, Int.reduceToNat, Int.reduceLT, Int.reduceLE, Int.reduceEq, reduceCtorEq, ↓reduceIte] at g19
    try simp -implicitDefEqProofs only [go_sem, Nat.reduceLT, Nat.reduceAdd, Nat.reduceSub, Nat.reduceMul, Nat.reduceEqDiff, Nat.reduceBEq, Nat.reduceLeDiff, Int.reduceToNat, Int.reduceLT, Int.reduceLE, Int.reduceEq, reduceCtorEq, ↓reduceIte] at g20
    obtain ⟨r23, q21, h⟩ := bnd_some h
    have w22 := e76 x16 s13 r23 q21
    try simp -implicitDefEqProofs only [go_sem, Nat.reduceLT, Nat.reduceAdd, Nat.reduceSub, Nat.reduceMul, Nat.reduceEqDiff, Nat.reduceBEq, Nat.reduceLeDiff, Int.reduceToNat, Int.reduceLT, Int.reduceLE, Int.reduceEq, reduceCtorEq, ↓reduceIte] at w22
    try simp -implicitDefEqProofs only [go_sem, Nat.reduceLT, Nat.reduceAdd, Nat.reduceSub, Nat.reduceMul, Nat.reduceEqDiff, Nat.reduceBEq, Nat.reduceLeDiff, Int.reduceToNat, Int.reduceLT, Int.reduceLE, Int.reduceEq, reduceCtorEq, ↓reduceIte, E44_1, X44_1, k44_1b, b15, g18, g19, g20, w22]
    cases b24 : (ltI r23 0 : Bool)
    · replace h := br_f b24 h
      cases h
      simp -implicitDefEqProofs only [go_sem, Nat.reduceLT, Nat.reduceAdd, Nat.reduceSub, Nat.reduceMul, Nat.reduceEqDiff, Nat.reduceBEq, Nat.reduceLeDiff, Int.reduceToNat, Int.reduceLT, Int.reduceLE, Int.reduceEq, reduceCtorEq, ↓reduceIte, E44_1, X44_1, k44_1b, b15, g18, g19, g20, w22, b24]
    · replace h := br_t b24 h
      cases h
      simp -implicitDefEqProofs only [go_sem, Nat.reduceLT, Nat.reduceAdd, Nat.reduceSub, Nat.reduceMul, Nat.reduceEqDiff, Nat.reduceBEq, Nat.reduceLeDiff, Int.reduceToNat, Int.reduceLT, Int.reduceLE, Int.reduceEq, reduceCtorEq, ↓reduceIte, E44_1, X44_1, k44_1b, b15, g18, g19, g20, w22, b24]
theorem e44_1 (a0 : (List (List Int))) (s : (Int × Int)) (o : (Int ⊕ Unit)) (h : loopP (m44_1b a0) s = some o) : evCL T 0 (.loop k44_1b) (E44_1 a0 s).1 (E44_1 a0 s).2 = some (X44_1 a0 o) :=
  loop_walk (E := E44_1 a0) (X := X44_1 a0) (by intro b; rcases b with b | b <;> (simp only [X44_1]; nofun)) (b44_1 a0) s o h
theorem e44 (a0 : (List (List Int))) (a1 : Int) (r : Int) (h : m44 a0 a1 = some r) : evFL T 44 [.ts .imm 1 (a0.map (encLInt .imm)), .int .i64 a1] [] = some (.int .i64 r, []) := by
  unfold m44 at h
  rw [evFL_at fn44 (Nat.le_of_ble_eq_true rfl) rfl (.inr rfl) ⟨rfl, rfl⟩]
  try simp -implicitDefEqProofs only [go_sem, Nat.reduceLT, Nat.reduceAdd, Nat.reduceSub, Nat.reduceMul, Nat.reduceEqDiff, Nat.reduceBEq, Nat.reduceLeDiff, Int.reduceToNat, Int.reduceLT, Int.reduceLE, Int.reduceEq, reduceCtorEq, ↓reduceIte, i44, c44]
  cases b1 : (ltI (wsub .i64 a1 (↑a0.length : Int)) 0 : Bool)
  · replace h := br_f b1 h
    try simp -implicitDefEqProofs only [go_sem, Nat.reduceLT, Nat.reduceAdd, Nat.reduceSub, Nat.reduceMul, Nat.reduceEqDiff, Nat.reduceBEq, Nat.reduceLeDiff, Int.reduceToNat, Int.reduceLT, Int.reduceLE, Int.reduceEq, reduceCtorEq, ↓reduceIte, i44, c44, b1]
    obtain ⟨o, q25, h⟩ := bnd_some h
    rcases o with v27 | ⟨⟩
    · replace h := selS_l h
      have w26 := e44_1 a0 (wsub .i64 a1 (↑a0.length : Int), 0) (.inl v27) q25
      simp only [E44_1, X44_1] at w26
      try simp -implicitDefEqProofs only [go_sem, Nat.reduceLT, Nat.reduceAdd, Nat.reduceSub, Nat.reduceMul, Nat.reduceEqDiff, Nat.reduceBEq, Nat.reduceLeDiff, Int.reduceToNat, Int.reduceLT, Int.reduceLE, Int.reduceEq, reduceCtorEq, ↓reduceIte] at w26
      cases h
      simp -implicitDefEqProofs only [go_sem, Nat.reduceLT, Nat.reduceAdd, Nat.reduceSub, Nat.reduceMul, Nat.reduceEqDiff, Nat.reduceBEq, Nat.reduceLeDiff, Int.reduceToNat, Int.reduceLT, Int.reduceLE, Int.reduceEq, reduceCtorEq, ↓reduceIte, i44, c44, b1, w26]
    · replace h := selS_r h
      have w26 := e44_1 a0 (wsub .i64 a1 (↑a0.length : Int), 0) (.inr ()) q25
      simp only [E44_1, X44_1] at w26
      try simp -implicitDefEqProofs only [go_sem, Nat.reduceLT, Nat.reduceAdd, Nat.reduceSub, Nat.reduceMul, Nat.reduceEqDiff, Nat.reduceBEq, Nat.reduceLeDiff, Int.reduceToNat, Int.reduceLT, Int.reduceLE, Int.reduceEq, reduceCtorEq, ↓reduceIte] at w26
      cases h
      simp -implicitDefEqProofs only [go_sem, Nat.reduceLT, Nat.reduceAdd, Nat.reduceSub, Nat.reduceMul, Nat.reduceEqDiff, Nat.reduceBEq, Nat.reduceLeDiff, Int.reduceToNat, Int.reduceLT, Int.reduceLE, Int.reduceEq, reduceCtorEq, ↓reduceIte, i44, c44, b1, w26]
  · replace h := br_t b1 h
    cases h
    simp -implicitDefEqProofs only [go_sem, Nat.reduceLT, Nat.reduceAdd, Nat.reduceSub, Nat.reduceMul, Nat.reduceEqDiff, Nat.reduceBEq, Nat.reduceLeDiff, Int.reduceToNat, Int.reduceLT, Int.reduceLE, Int.reduceEq, reduceCtorEq, ↓reduceIte, i44, c44, b1]
-- f12 laws.szAlgebra
theorem call12 (args : List AV) (S : St) : evCall T (evFL T) 12 args S = lendC (evFL T 12) S (lendAll S [[0, 1], [0]] args) := evCall0 fn12 rfl rfl rfl args S
theorem callz12 (args : List AV) (S : St) : evCallFz T (evFL T) 12 args S = lendZ (evFL T 12) S [[0]] (lendAll S [[0, 1], [0]] args) := evCallFz0 fn12 rfl rfl rfl args S
theorem calls12 (args : List AV) (S : St) : evCall (T.at true) (evFL T) 12 args S = lendC (evFL T 12) S (lendAll S [[0, 1], [0]] args) := evCall0 fns12 rfl rfl rfl args S
theorem callsz12 (args : List AV) (S : St) : evCallFz (T.at true) (evFL T) 12 args S = lendZ (evFL T 12) S [[0]] (lendAll S [[0, 1], [0]] args) := evCallFz0 fns12 rfl rfl rfl args S
attribute [go_sem] call12 callz12 calls12 callsz12
theorem e12 (a0 : Algebra) (a1 : Int) (r : Int) (h : m12 a0 a1 = some r) : evFL T 12 [.agg [.int .i64 a0.weights, .ts .imm 1 (a0.apply.map (encLInt .imm))], .int .i64 a1] [] = some (.int .i64 r, []) := by
  unfold m12 at h
  rw [evFL_at fn12 (Nat.le_of_ble_eq_true rfl) rfl (.inr rfl) ⟨rfl, rfl⟩]
  obtain ⟨r3, q1, h⟩ := bnd_some h
  have w2 := e44 a0.apply a1 r3 q1
  try simp -implicitDefEqProofs only [go_sem, Nat.reduceLT, Nat.reduceAdd, Nat.reduceSub, Nat.reduceMul, Nat.reduceEqDiff, Nat.reduceBEq, Nat.reduceLeDiff, Int.reduceToNat, Int.reduceLT, Int.reduceLE, Int.reduceEq, reduceCtorEq, ↓reduceIte] at w2
  try simp -implicitDefEqProofs only [go_sem, Nat.reduceLT, Nat.reduceAdd, Nat.reduceSub, Nat.reduceMul, Nat.reduceEqDiff, Nat.reduceBEq, Nat.reduceLeDiff, Int.reduceToNat, Int.reduceLT, Int.reduceLE, Int.reduceEq, reduceCtorEq, ↓reduceIte, i12, c12, w2]
  cases b4 : (ltI r3 0 : Bool)
  · replace h := br_f b4 h
    cases h
    simp -implicitDefEqProofs only [go_sem, Nat.reduceLT, Nat.reduceAdd, Nat.reduceSub, Nat.reduceMul, Nat.reduceEqDiff, Nat.reduceBEq, Nat.reduceLeDiff, Int.reduceToNat, Int.reduceLT, Int.reduceLE, Int.reduceEq, reduceCtorEq, ↓reduceIte, i12, c12, w2, b4]
  · replace h := br_t b4 h
    cases h
    simp -implicitDefEqProofs only [go_sem, Nat.reduceLT, Nat.reduceAdd, Nat.reduceSub, Nat.reduceMul, Nat.reduceEqDiff, Nat.reduceBEq, Nat.reduceLeDiff, Int.reduceToNat, Int.reduceLT, Int.reduceLE, Int.reduceEq, reduceCtorEq, ↓reduceIte, i12, c12, w2, b4]
-- f25 laws.szArcS
theorem call25 (args : List AV) (S : St) : evCall T (evFL T) 25 args S = lendC (evFL T 25) S (lendAll S [[3], [0]] args) := evCall0 fn25 rfl rfl rfl args S
theorem callz25 (args : List AV) (S : St) : evCallFz T (evFL T) 25 args S = lendZ (evFL T 25) S [[0]] (lendAll S [[3], [0]] args) := evCallFz0 fn25 rfl rfl rfl args S
theorem calls25 (args : List AV) (S : St) : evCall (T.at true) (evFL T) 25 args S = lendC (evFL T 25) S (lendAll S [[3], [0]] args) := evCall0 fns25 rfl rfl rfl args S
theorem callsz25 (args : List AV) (S : St) : evCallFz (T.at true) (evFL T) 25 args S = lendZ (evFL T 25) S [[0]] (lendAll S [[3], [0]] args) := evCallFz0 fns25 rfl rfl rfl args S
attribute [go_sem] call25 callz25 calls25 callsz25
theorem e25 (a0 : (List Arc)) (a1 : Int) (r : Int) (h : m25 a0 a1 = some r) : evFL T 25 [.ts .imm 3 (a0.map encArc), .int .i64 a1] [] = some (.int .i64 r, []) := by
  unfold m25 at h
  rw [evFL_at fn25 (Nat.le_of_ble_eq_true rfl) rfl (.inr rfl) ⟨rfl, rfl⟩]
  try simp -implicitDefEqProofs only [go_sem, Nat.reduceLT, Nat.reduceAdd, Nat.reduceSub, Nat.reduceMul, Nat.reduceEqDiff, Nat.reduceBEq, Nat.reduceLeDiff, Int.reduceToNat, Int.reduceLT, Int.reduceLE, Int.reduceEq, reduceCtorEq, ↓reduceIte, i25, c25]
  cases b1 : (ltI (wsub .i64 a1 (↑a0.length : Int)) 0 : Bool)
  · replace h := br_f b1 h
    cases h
    simp -implicitDefEqProofs only [go_sem, Nat.reduceLT, Nat.reduceAdd, Nat.reduceSub, Nat.reduceMul, Nat.reduceEqDiff, Nat.reduceBEq, Nat.reduceLeDiff, Int.reduceToNat, Int.reduceLT, Int.reduceLE, Int.reduceEq, reduceCtorEq, ↓reduceIte, i25, c25, b1]
  · replace h := br_t b1 h
    cases h
    simp -implicitDefEqProofs only [go_sem, Nat.reduceLT, Nat.reduceAdd, Nat.reduceSub, Nat.reduceMul, Nat.reduceEqDiff, Nat.reduceBEq, Nat.reduceLeDiff, Int.reduceToNat, Int.reduceLT, Int.reduceLE, Int.reduceEq, reduceCtorEq, ↓reduceIte, i25, c25, b1]
-- f28 laws.toIntS
theorem call28 (args : List AV) (S : St) : evCall T (evFL T) 28 args S = lendC (evFL T 28) S (lendAll S [[1]] args) := evCall0 fn28 rfl rfl rfl args S
theorem callz28 (args : List AV) (S : St) : evCallFz T (evFL T) 28 args S = lendZ (evFL T 28) S [[1]] (lendAll S [[1]] args) := evCallFz0 fn28 rfl rfl rfl args S
theorem calls28 (args : List AV) (S : St) : evCall (T.at true) (evFL T) 28 args S = lendC (evFL T 28) S (lendAll S [[1]] args) := evCall0 fns28 rfl rfl rfl args S
theorem callsz28 (args : List AV) (S : St) : evCallFz (T.at true) (evFL T) 28 args S = lendZ (evFL T 28) S [[1]] (lendAll S [[1]] args) := evCallFz0 fns28 rfl rfl rfl args S
attribute [go_sem] call28 callz28 calls28 callsz28
noncomputable def X28_1 (a0 : (List Int)) (o : (List Int)) : Ex × Fr × St :=
  (.exit 0, frOf 22 (upd anyF 3 (.sl 0 0 o.length)), [some ⟨.arr, 1, o.map encInt⟩])
noncomputable def E28_1 (a0 : (List Int)) (s : (Int × List Int)) : Fr × St := (frOf 22 (upd (upd (upd anyF 0 (.ts .imm 1 (a0.map encInt))) 3 (.sl 0 0 s.2.length)) 4 (.int .i64 s.1)), [some ⟨.arr, 1, s.2.map encInt⟩])
theorem b28_1 (a0 : (List Int)) (s : (Int × List Int)) (o : Ctl (Int × List Int) (List Int)) (h : m28_1b a0 s = some o) : evCL T 0 k28_1b (E28_1 a0 s).1 (E28_1 a0 s).2 = some (ctlX (E28_1 a0) (X28_1 a0) o) := by
  unfold m28_1b at h
  obtain ⟨s14, s15⟩ := s
  replace h := sel2_some h
  try simp -implicitDefEqProofs only [go_sem, Nat.reduceLT, Nat.reduceAdd, Nat.reduceSub, Nat.reduceMul, Nat.reduceEqDiff, Nat.reduceBEq, Nat.reduceLeDiff, Int.reduceToNat, Int.reduceLT, Int.reduceLE, Int.reduceEq, reduceCtorEq, ↓reduceIte, E28_1, X28_1, k28_1b]
  cases b16 : (ltI s14 (↑a0.length : Int) : Bool)
  · replace h := br_f b16 h
    cases h
    simp -implicitDefEqProofs only [go_sem, Nat.reduceLT, Nat.reduceAdd, Nat.reduceSub, Nat.reduceMul, Nat.reduceEqDiff, Nat.reduceBEq, Nat.reduceLeDiff, Int.reduceToNat, Int.reduceLT, Int.reduceLE, Int.reduceEq, reduceCtorEq, ↓reduceIte, E28_1, X28_1, k28_1b, b16]
  · replace h := br_t b16 h
    obtain ⟨x17, q18, h⟩ := bnd_some h
    obtain ⟨g19, g20, g21⟩ := idx_row encInt q18
    try simp -implicitDefEqProofs only [go_sem, Nat.reduceLT, Nat.reduceAdd, Nat.reduceSub, Nat.reduceMul, Nat.reduceEqDiff, Nat.reduceBEq, Nat.reduceLeDiff, Int.reduceToNat, Int.reduceLT, Int.reduceLE, Int.reduceEq, reduceCtorEq, ↓reduceIte] at g20
    try simp -implicitDefEqProofs only [go_sem, Nat.reduceLT, Nat.reduceAdd, Nat.reduceSub, Nat.reduceMul, Nat.reduceEqDiff, Nat.reduceBEq, Nat.reduceLeDiff, Int.reduceToNat, Int.reduceLT, Int.reduceLE, Int.reduceEq, reduceCtorEq, ↓reduceIte] at g21
    obtain ⟨x22, q23, h⟩ := bnd_some h
    obtain ⟨g24, g25, g26⟩ := idx_row encInt q23
    try simp -implicitDefEqProofs only [go_sem, Nat.reduceLT, Nat.reduceAdd, Nat.reduceSub, Nat.reduceMul, Nat.reduceEqDiff, Nat.reduceBEq, Nat.reduceLeDiff, Int.reduceToNat, Int.reduceLT, Int.reduceLE, Int.reduceEq, reduceCtorEq, ↓reduceIte] at g25
    try simp -implicitDefEqProofs only [go_sem, Nat.reduceLT, Nat.reduceAdd, Nat.reduceSub, Nat.reduceMul, Nat.reduceEqDiff, Nat.reduceBEq, Nat.reduceLeDiff, Int.reduceToNat, Int.reduceLT, Int.reduceLE, Int.reduceEq, reduceCtorEq, ↓reduceIte] at g26
    cases h
    simp -implicitDefEqProofs only [go_sem, Nat.reduceLT, Nat.reduceAdd, Nat.reduceSub, Nat.reduceMul, Nat.reduceEqDiff, Nat.reduceBEq, Nat.reduceLeDiff, Int.reduceToNat, Int.reduceLT, Int.reduceLE, Int.reduceEq, reduceCtorEq, ↓reduceIte, E28_1, X28_1, k28_1b, b16, g19, g20, g21, g24, g25, g26]
theorem e28_1 (a0 : (List Int)) (s : (Int × List Int)) (o : (List Int)) (h : loopP (m28_1b a0) s = some o) : evCL T 0 (.loop k28_1b) (E28_1 a0 s).1 (E28_1 a0 s).2 = some (X28_1 a0 o) :=
  loop_walk (E := E28_1 a0) (X := X28_1 a0) (by intro b; (simp only [X28_1]; nofun)) (b28_1 a0) s o h
theorem e28 (a0 : (List Int)) (r : (List Int)) (h : m28 a0 = some r) : evFL T 28 [.ts .imm 1 (a0.map encInt)] [] = some (.sl 0 0 r.length, [some ⟨.arr, 1, r.map encInt⟩]) := by
  unfold m28 at h
  rw [evFL_at fn28 (Nat.le_of_ble_eq_true rfl) rfl (.inr rfl) ⟨rfl, rfl⟩]
  obtain ⟨g1, h⟩ := ck_some h
  try simp -implicitDefEqProofs only [go_sem, Nat.reduceLT, Nat.reduceAdd, Nat.reduceSub, Nat.reduceMul, Nat.reduceEqDiff, Nat.reduceBEq, Nat.reduceLeDiff, Int.reduceToNat, Int.reduceLT, Int.reduceLE, Int.reduceEq, reduceCtorEq, ↓reduceIte] at g1
  obtain ⟨v29, q27, h⟩ := bnd_some h
  have w28 := e28_1 a0 (0, List.replicate a0.length 0) v29 q27
  simp only [E28_1, X28_1] at w28
  try simp -implicitDefEqProofs only [go_sem, Nat.reduceLT, Nat.reduceAdd, Nat.reduceSub, Nat.reduceMul, Nat.reduceEqDiff, Nat.reduceBEq, Nat.reduceLeDiff, Int.reduceToNat, Int.reduceLT, Int.reduceLE, Int.reduceEq, reduceCtorEq, ↓reduceIte] at w28
  cases h
  simp -implicitDefEqProofs only [go_sem, Nat.reduceLT, Nat.reduceAdd, Nat.reduceSub, Nat.reduceMul, Nat.reduceEqDiff, Nat.reduceBEq, Nat.reduceLeDiff, Int.reduceToNat, Int.reduceLT, Int.reduceLE, Int.reduceEq, reduceCtorEq, ↓reduceIte, i28, c28, g1, w28]
-- f47 laws.toIntSS
theorem call47 (args : List AV) (S : St) : evCall T (evFL T) 47 args S = lendC (evFL T 47) S (lendAll S [[1]] args) := evCall0 fn47 rfl rfl rfl args S
theorem callz47 (args : List AV) (S : St) : evCallFz T (evFL T) 47 args S = lendZ (evFL T 47) S [[1]] (lendAll S [[1]] args) := evCallFz0 fn47 rfl rfl rfl args S
theorem calls47 (args : List AV) (S : St) : evCall (T.at true) (evFL T) 47 args S = lendC (evFL T 47) S (lendAll S [[1]] args) := evCall0 fns47 rfl rfl rfl args S
theorem callsz47 (args : List AV) (S : St) : evCallFz (T.at true) (evFL T) 47 args S = lendZ (evFL T 47) S [[1]] (lendAll S [[1]] args) := evCallFz0 fns47 rfl rfl rfl args S
attribute [go_sem] call47 callz47 calls47 callsz47
noncomputable def X47_1 (a0 : (List (List Int))) (o : (List (List Int))) : Ex × Fr × St :=
  (.exit 0, frOf 23 (upd anyF 3 (.sl 0 0 o.length)), [some ⟨.arr, 1, o.map (encLInt .own)⟩])
noncomputable def E47_1 (a0 : (List (List Int))) (s : (Int × List (List Int))) : Fr × St := (frOf 23 (upd (upd (upd anyF 0 (.ts .imm 1 (a0.map (encLInt .imm)))) 3 (.sl 0 0 s.2.length)) 4 (.int .i64 s.1)), [some ⟨.arr, 1, s.2.map (encLInt .own)⟩])
theorem b47_1 (a0 : (List (List Int))) (s : (Int × List (List Int))) (o : Ctl (Int × List (List Int)) (List (List Int))) (h : m47_1b a0 s = some o) : evCL T 0 k47_1b (E47_1 a0 s).1 (E47_1 a0 s).2 = some (ctlX (E47_1 a0) (X47_1 a0) o) := by
  unfold m47_1b at h
  obtain ⟨s17, s18⟩ := s
  replace h := sel2_some h
  try simp -implicitDefEqProofs only [go_sem, Nat.reduceLT, Nat.reduceAdd, Nat.reduceSub, Nat.reduceMul, Nat.reduceEqDiff, Nat.reduceBEq, Nat.reduceLeDiff, Int.reduceToNat, Int.reduceLT, Int.reduceLE, Int.reduceEq, reduceCtorEq, ↓reduceIte, E47_1, X47_1, k47_1b]
  cases b19 : (ltI s17 (↑a0.length : Int) : Bool)
  · replace h := br_f b19 h
    cases h
    simp -implicitDefEqProofs only [go_sem, Nat.reduceLT, Nat.reduceAdd, Nat.reduceSub, Nat.reduceMul, Nat.reduceEqDiff, Nat.reduceBEq, Nat.reduceLeDiff, Int.reduceToNat, Int.reduceLT, Int.reduceLE, Int.reduceEq, reduceCtorEq, ↓reduceIte, E47_1, X47_1, k47_1b, b19]
  · replace h := br_t b19 h
    obtain ⟨x20, q21, h⟩ := bnd_some h
    obtain ⟨g22, g23, g24⟩ := idx_row (encLInt .imm) q21
    try simp -implicitDefEqProofs only [go_sem, Nat.reduceLT, Nat.reduceAdd, Nat.reduceSub, Nat.reduceMul, Nat.reduceEqDiff, Nat.reduceBEq, Nat.reduceLeDiff, Int.reduceToNat, Int.reduceLT, Int.reduceLE, Int.reduceEq, reduceCtorEq, ↓reduceIte] at g23
    try simp -implicitDefEqProofs only [go_sem, Nat.reduceLT, Nat.reduceAdd, Nat.reduceSub, Nat.reduceMul, Nat.reduceEqDiff, Nat.reduceBEq, Nat.reduceLeDiff, Int.reduceToNat, Int.reduceLT, Int.reduceLE, Int.reduceEq, reduceCtorEq, ↓reduceIte] at g24
    obtain ⟨r27, q25, h⟩ := bnd_some h
    have w26 := e28 x20 r27 q25
    try simp -implicitDefEqProofs only [go_sem, Nat.reduceLT, Nat.reduceAdd, Nat.reduceSub, Nat.reduceMul, Nat.reduceEqDiff, Nat.reduceBEq, Nat.reduceLeDiff, Int.reduceToNat, Int.reduceLT, Int.reduceLE, Int.reduceEq, reduceCtorEq, ↓reduceIte] at w26
    obtain ⟨x28, q29, h⟩ := bnd_some h
    obtain ⟨g30, g31, g32⟩ := idx_row (encLInt .own) q29
    try simp -implicitDefEqProofs only [go_sem, Nat.reduceLT, Nat.reduceAdd, Nat.reduceSub, Nat.reduceMul, Nat.reduceEqDiff, Nat.reduceBEq, Nat.reduceLeDiff, Int.reduceToNat, Int.reduceLT, Int.reduceLE, Int.reduceEq, reduceCtorEq, ↓reduceIte] at g31
    try simp -implicitDefEqProofs only [go_sem, Nat.reduceLT, Nat.reduceAdd, Nat.reduceSub, Nat.reduceMul, Nat.reduceEqDiff, Nat.reduceBEq, Nat.reduceLeDiff, Int.reduceToNat, Int.reduceLT, Int.reduceLE, Int.reduceEq, reduceCtorEq, ↓reduceIte] at g32
    cases h
    simp -implicitDefEqProofs only [go_sem, Nat.reduceLT, Nat.reduceAdd, Nat.reduceSub, Nat.reduceMul, Nat.reduceEqDiff, Nat.reduceBEq, Nat.reduceLeDiff, Int.reduceToNat, Int.reduceLT, Int.reduceLE, Int.reduceEq, reduceCtorEq, ↓reduceIte, E47_1, X47_1, k47_1b, b19, g22, g23, g24, w26, g30, g31, g32]
theorem e47_1 (a0 : (List (List Int))) (s : (Int × List (List Int))) (o : (List (List Int))) (h : loopP (m47_1b a0) s = some o) : evCL T 0 (.loop k47_1b) (E47_1 a0 s).1 (E47_1 a0 s).2 = some (X47_1 a0 o) :=
  loop_walk (E := E47_1 a0) (X := X47_1 a0) (by intro b; (simp only [X47_1]; nofun)) (b47_1 a0) s o h
theorem e47 (a0 : (List (List Int))) (r : (List (List Int))) (h : m47 a0 = some r) : evFL T 47 [.ts .imm 1 (a0.map (encLInt .imm))] [] = some (.sl 0 0 r.length, [some ⟨.arr, 1, r.map (encLInt .own)⟩]) := by
  unfold m47 at h
  rw [evFL_at fn47 (Nat.le_of_ble_eq_true rfl) rfl (.inr rfl) ⟨rfl, rfl⟩]
  obtain ⟨g1, h⟩ := ck_some h
  try simp -implicitDefEqProofs only [go_sem, Nat.reduceLT, Nat.reduceAdd, Nat.reduceSub, Nat.reduceMul, Nat.reduceEqDiff, Nat.reduceBEq, Nat.reduceLeDiff, Int.reduceToNat, Int.reduceLT, Int.reduceLE, Int.reduceEq, reduceCtorEq, ↓reduceIte] at g1
  obtain ⟨v35, q33, h⟩ := bnd_some h
  have w34 := e47_1 a0 (0, List.replicate a0.length []) v35 q33
  simp only [E47_1, X47_1] at w34
  try simp -implicitDefEqProofs only [go_sem, Nat.reduceLT, Nat.reduceAdd, Nat.reduceSub, Nat.reduceMul, Nat.reduceEqDiff, Nat.reduceBEq, Nat.reduceLeDiff, Int.reduceToNat, Int.reduceLT, Int.reduceLE, Int.reduceEq, reduceCtorEq, ↓reduceIte] at w34
  cases h
  simp -implicitDefEqProofs only [go_sem, Nat.reduceLT, Nat.reduceAdd, Nat.reduceSub, Nat.reduceMul, Nat.reduceEqDiff, Nat.reduceBEq, Nat.reduceLeDiff, Int.reduceToNat, Int.reduceLT, Int.reduceLE, Int.reduceEq, reduceCtorEq, ↓reduceIte, i47, c47, g1, w34]
-- f14 laws.toAlgebra
theorem call14 (args : List AV) (S : St) : evCall T (evFL T) 14 args S = lendC (evFL T 14) S (lendAll S [[0, 1]] args) := evCall0 fn14 rfl rfl rfl args S
theorem callz14 (args : List AV) (S : St) : evCallFz T (evFL T) 14 args S = lendZ (evFL T 14) S [[0, 1]] (lendAll S [[0, 1]] args) := evCallFz0 fn14 rfl rfl rfl args S
theorem calls14 (args : List AV) (S : St) : evCall (T.at true) (evFL T) 14 args S = lendC (evFL T 14) S (lendAll S [[0, 1]] args) := evCall0 fns14 rfl rfl rfl args S
theorem callsz14 (args : List AV) (S : St) : evCallFz (T.at true) (evFL T) 14 args S = lendZ (evFL T 14) S [[0, 1]] (lendAll S [[0, 1]] args) := evCallFz0 fns14 rfl rfl rfl args S
attribute [go_sem] call14 callz14 calls14 callsz14
theorem e14 (a0 : Algebra) (r : Algebra) (h : m14 a0 = some r) : evFL T 14 [.agg [.int .i64 a0.weights, .ts .imm 1 (a0.apply.map (encLInt .imm))]] [] = some (.agg [.int .i64 r.weights, .sl 0 0 r.apply.length], [some ⟨.arr, 1, r.apply.map (encLInt .own)⟩]) := by
  unfold m14 at h
  rw [evFL_at fn14 (Nat.le_of_ble_eq_true rfl) rfl (.inr rfl) ⟨rfl, rfl⟩]
  obtain ⟨r3, q1, h⟩ := bnd_some h
  have w2 := e47 a0.apply r3 q1
  try simp -implicitDefEqProofs only [go_sem, Nat.reduceLT, Nat.reduceAdd, Nat.reduceSub, Nat.reduceMul, Nat.reduceEqDiff, Nat.reduceBEq, Nat.reduceLeDiff, Int.reduceToNat, Int.reduceLT, Int.reduceLE, Int.reduceEq, reduceCtorEq, ↓reduceIte] at w2
  cases h
  simp -implicitDefEqProofs only [go_sem, Nat.reduceLT, Nat.reduceAdd, Nat.reduceSub, Nat.reduceMul, Nat.reduceEqDiff, Nat.reduceBEq, Nat.reduceLeDiff, Int.reduceToNat, Int.reduceLT, Int.reduceLE, Int.reduceEq, reduceCtorEq, ↓reduceIte, i14, c14, w2]
-- f62 laws.toArc
theorem call62 (args : List AV) (S : St) : evCall T (evFL T) 62 args S = lendC (evFL T 62) S (lendAll S [[0, 0, 0]] args) := evCall0 fn62 rfl rfl rfl args S
theorem callz62 (args : List AV) (S : St) : evCallFz T (evFL T) 62 args S = lendZ (evFL T 62) S [[0, 0, 0]] (lendAll S [[0, 0, 0]] args) := evCallFz0 fn62 rfl rfl rfl args S
theorem calls62 (args : List AV) (S : St) : evCall (T.at true) (evFL T) 62 args S = lendC (evFL T 62) S (lendAll S [[0, 0, 0]] args) := evCall0 fns62 rfl rfl rfl args S
theorem callsz62 (args : List AV) (S : St) : evCallFz (T.at true) (evFL T) 62 args S = lendZ (evFL T 62) S [[0, 0, 0]] (lendAll S [[0, 0, 0]] args) := evCallFz0 fns62 rfl rfl rfl args S
attribute [go_sem] call62 callz62 calls62 callsz62
theorem e62 (a0 : Arc) (r : Arc) (h : m62 a0 = some r) : evFL T 62 [.agg [.int .i64 a0.from_, .int .i64 a0.to, .int .i64 a0.label]] [] = some (.agg [.int .i64 r.from_, .int .i64 r.to, .int .i64 r.label], []) := by
  unfold m62 at h
  rw [evFL_at fn62 (Nat.le_of_ble_eq_true rfl) rfl (.inr rfl) ⟨rfl, rfl⟩]
  cases h
  simp -implicitDefEqProofs only [go_sem, Nat.reduceLT, Nat.reduceAdd, Nat.reduceSub, Nat.reduceMul, Nat.reduceEqDiff, Nat.reduceBEq, Nat.reduceLeDiff, Int.reduceToNat, Int.reduceLT, Int.reduceLE, Int.reduceEq, reduceCtorEq, ↓reduceIte, i62, c62]
-- f27 laws.toArcS
theorem call27 (args : List AV) (S : St) : evCall T (evFL T) 27 args S = lendC (evFL T 27) S (lendAll S [[3]] args) := evCall0 fn27 rfl rfl rfl args S
theorem callz27 (args : List AV) (S : St) : evCallFz T (evFL T) 27 args S = lendZ (evFL T 27) S [[3]] (lendAll S [[3]] args) := evCallFz0 fn27 rfl rfl rfl args S
theorem calls27 (args : List AV) (S : St) : evCall (T.at true) (evFL T) 27 args S = lendC (evFL T 27) S (lendAll S [[3]] args) := evCall0 fns27 rfl rfl rfl args S
theorem callsz27 (args : List AV) (S : St) : evCallFz (T.at true) (evFL T) 27 args S = lendZ (evFL T 27) S [[3]] (lendAll S [[3]] args) := evCallFz0 fns27 rfl rfl rfl args S
attribute [go_sem] call27 callz27 calls27 callsz27
noncomputable def X27_1 (a0 : (List Arc)) (o : (List Arc)) : Ex × Fr × St :=
  (.exit 0, frOf 23 (upd anyF 3 (.sl 0 0 o.length)), [some ⟨.arr, 3, o.map encArc⟩])
noncomputable def E27_1 (a0 : (List Arc)) (s : (Int × List Arc)) : Fr × St := (frOf 23 (upd (upd (upd anyF 0 (.ts .imm 3 (a0.map encArc))) 3 (.sl 0 0 s.2.length)) 4 (.int .i64 s.1)), [some ⟨.arr, 3, s.2.map encArc⟩])
theorem b27_1 (a0 : (List Arc)) (s : (Int × List Arc)) (o : Ctl (Int × List Arc) (List Arc)) (h : m27_1b a0 s = some o) : evCL T 0 k27_1b (E27_1 a0 s).1 (E27_1 a0 s).2 = some (ctlX (E27_1 a0) (X27_1 a0) o) := by
  unfold m27_1b at h
  obtain ⟨s17, s18⟩ := s
  replace h := sel2_some h
  try simp -implicitDefEqProofs only [go_sem, Nat.reduceLT, Nat.reduceAdd, Nat.reduceSub, Nat.reduceMul, Nat.reduceEqDiff, Nat.reduceBEq, Nat.reduceLeDiff, Int.reduceToNat, Int.reduceLT, Int.reduceLE, Int.reduceEq, reduceCtorEq, ↓reduceIte, E27_1, X27_1, k27_1b]
  cases b19 : (ltI s17 (↑a0.length : Int) : Bool)
  · replace h := br_f b19 h
    cases h
    simp -implicitDefEqProofs only [go_sem, Nat.reduceLT, Nat.reduceAdd, Nat.reduceSub, Nat.reduceMul, Nat.reduceEqDiff, Nat.reduceBEq, Nat.reduceLeDiff, Int.reduceToNat, Int.reduceLT, Int.reduceLE, Int.reduceEq, reduceCtorEq, ↓reduceIte, E27_1, X27_1, k27_1b, b19]
  · replace h := br_t b19 h
    obtain ⟨x20, q21, h⟩ := bnd_some h
    obtain ⟨g22, g23, g24⟩ := idx_row encArc q21
    try simp -implicitDefEqProofs only [go_sem, Nat.reduceLT, Nat.reduceAdd, Nat.reduceSub, Nat.reduceMul, Nat.reduceEqDiff, Nat.reduceBEq, Nat.reduceLeDiff, Int.reduceToNat, Int.reduceLT, Int.reduceLE, Int.reduceEq, reduceCtorEq, ↓reduceIte] at g23
    try simp -implicitDefEqProofs only [go_sem, Nat.reduceLT, Nat.reduceAdd, Nat.reduceSub, Nat.reduceMul, Nat.reduceEqDiff, Nat.reduceBEq, Nat.reduceLeDiff, Int.reduceToNat, Int.reduceLT, Int.reduceLE, Int.reduceEq, reduceCtorEq, ↓reduceIte] at g24
    obtain ⟨r27, q25, h⟩ := bnd_some h
    have w26 := e62 x20 r27 q25
    try simp -implicitDefEqProofs only [go_sem, Nat.reduceLT, Nat.reduceAdd, Nat.reduceSub, Nat.reduceMul, Nat.reduceEqDiff, Nat.reduceBEq, Nat.reduceLeDiff, Int.reduceToNat, Int.reduceLT, Int.reduceLE, Int.reduceEq, reduceCtorEq, ↓reduceIte] at w26
    obtain ⟨x28, q29, h⟩ := bnd_some h
    obtain ⟨g30, g31, g32⟩ := idx_row encArc q29
    try simp -implicitDefEqProofs only [go_sem, Nat.reduceLT, Nat.reduceAdd, Nat.reduceSub, Nat.reduceMul, Nat.reduceEqDiff, Nat.reduceBEq, Nat.reduceLeDiff, Int.reduceToNat, Int.reduceLT, Int.reduceLE, Int.reduceEq, reduceCtorEq, ↓reduceIte] at g31
    try simp -implicitDefEqProofs only [go_sem, Nat.reduceLT, Nat.reduceAdd, Nat.reduceSub, Nat.reduceMul, Nat.reduceEqDiff, Nat.reduceBEq, Nat.reduceLeDiff, Int.reduceToNat, Int.reduceLT, Int.reduceLE, Int.reduceEq, reduceCtorEq, ↓reduceIte] at g32
    cases h
    simp -implicitDefEqProofs only [go_sem, Nat.reduceLT, Nat.reduceAdd, Nat.reduceSub, Nat.reduceMul, Nat.reduceEqDiff, Nat.reduceBEq, Nat.reduceLeDiff, Int.reduceToNat, Int.reduceLT, Int.reduceLE, Int.reduceEq, reduceCtorEq, ↓reduceIte, E27_1, X27_1, k27_1b, b19, g22, g23, g24, w26, g30, g31, g32]
theorem e27_1 (a0 : (List Arc)) (s : (Int × List Arc)) (o : (List Arc)) (h : loopP (m27_1b a0) s = some o) : evCL T 0 (.loop k27_1b) (E27_1 a0 s).1 (E27_1 a0 s).2 = some (X27_1 a0 o) :=
  loop_walk (E := E27_1 a0) (X := X27_1 a0) (by intro b; (simp only [X27_1]; nofun)) (b27_1 a0) s o h
theorem e27 (a0 : (List Arc)) (r : (List Arc)) (h : m27 a0 = some r) : evFL T 27 [.ts .imm 3 (a0.map encArc)] [] = some (.sl 0 0 r.length, [some ⟨.arr, 3, r.map encArc⟩]) := by
  unfold m27 at h
  rw [evFL_at fn27 (Nat.le_of_ble_eq_true rfl) rfl (.inr rfl) ⟨rfl, rfl⟩]
  obtain ⟨g1, h⟩ := ck_some h
  try simp -implicitDefEqProofs only [go_sem, Nat.reduceLT, Nat.reduceAdd, Nat.reduceSub, Nat.reduceMul, Nat.reduceEqDiff, Nat.reduceBEq, Nat.reduceLeDiff, Int.reduceToNat, Int.reduceLT, Int.reduceLE, Int.reduceEq, reduceCtorEq, ↓reduceIte] at g1
  obtain ⟨v35, q33, h⟩ := bnd_some h
  have w34 := e27_1 a0 (0, List.replicate a0.length (⟨0, 0, 0⟩ : Arc)) v35 q33
  simp only [E27_1, X27_1] at w34
  try simp -implicitDefEqProofs only [go_sem, Nat.reduceLT, Nat.reduceAdd, Nat.reduceSub, Nat.reduceMul, Nat.reduceEqDiff, Nat.reduceBEq, Nat.reduceLeDiff, Int.reduceToNat, Int.reduceLT, Int.reduceLE, Int.reduceEq, reduceCtorEq, ↓reduceIte] at w34
  cases h
  simp -implicitDefEqProofs only [go_sem, Nat.reduceLT, Nat.reduceAdd, Nat.reduceSub, Nat.reduceMul, Nat.reduceEqDiff, Nat.reduceBEq, Nat.reduceLeDiff, Int.reduceToNat, Int.reduceLT, Int.reduceLE, Int.reduceEq, reduceCtorEq, ↓reduceIte, i27, c27, g1, w34]
-- f45 spec.l1In
theorem call45 (args : List AV) (S : St) : evCall T (evFL T) 45 args S = lendC (evFL T 45) S (lendAll S [[0], [0], [0]] args) := evCall0 fn45 rfl rfl rfl args S
theorem callz45 (args : List AV) (S : St) : evCallFz T (evFL T) 45 args S = lendZ (evFL T 45) S [[0]] (lendAll S [[0], [0], [0]] args) := evCallFz0 fn45 rfl rfl rfl args S
theorem calls45 (args : List AV) (S : St) : evCall (T.at true) (evFL T) 45 args S = lendC (evFL T 45) S (lendAll S [[0], [0], [0]] args) := evCall0 fns45 rfl rfl rfl args S
theorem callsz45 (args : List AV) (S : St) : evCallFz (T.at true) (evFL T) 45 args S = lendZ (evFL T 45) S [[0]] (lendAll S [[0], [0], [0]] args) := evCallFz0 fns45 rfl rfl rfl args S
attribute [go_sem] call45 callz45 calls45 callsz45
noncomputable def X45_1 (a0 : Int) (a1 : Int) (a2 : Int) (o : Bool) : Ex × Fr × St :=
  (.normal, frOf 15 (upd anyF 6 (.bool o)), [])
theorem e45_1 (a0 : Int) (a1 : Int) (a2 : Int) (o : Bool) (h : m45_1 a0 a1 a2 = some o) : evCL T 0 k45_1 (frOf 15 (upd (upd (upd anyF 0 (.int .i64 a0)) 1 (.int .i64 a1)) 2 (.int .i64 a2))) [] = some (X45_1 a0 a1 a2 o) := by
  unfold m45_1 at h
  try simp -implicitDefEqProofs only [go_sem, Nat.reduceLT, Nat.reduceAdd, Nat.reduceSub, Nat.reduceMul, Nat.reduceEqDiff, Nat.reduceBEq, Nat.reduceLeDiff, Int.reduceToNat, Int.reduceLT, Int.reduceLE, Int.reduceEq, reduceCtorEq, ↓reduceIte, X45_1, k45_1]
  cases b1 : (leI a1 a0 : Bool)
  · replace h := br_f b1 h
    cases h
    simp -implicitDefEqProofs only [go_sem, Nat.reduceLT, Nat.reduceAdd, Nat.reduceSub, Nat.reduceMul, Nat.reduceEqDiff, Nat.reduceBEq, Nat.reduceLeDiff, Int.reduceToNat, Int.reduceLT, Int.reduceLE, Int.reduceEq, reduceCtorEq, ↓reduceIte, X45_1, k45_1, b1]
  · replace h := br_t b1 h
    cases h
    simp -implicitDefEqProofs only [go_sem, Nat.reduceLT, Nat.reduceAdd, Nat.reduceSub, Nat.reduceMul, Nat.reduceEqDiff, Nat.reduceBEq, Nat.reduceLeDiff, Int.reduceToNat, Int.reduceLT, Int.reduceLE, Int.reduceEq, reduceCtorEq, ↓reduceIte, X45_1, k45_1, b1]
theorem e45 (a0 : Int) (a1 : Int) (a2 : Int) (r : Bool) (h : m45 a0 a1 a2 = some r) : evFL T 45 [.int .i64 a0, .int .i64 a1, .int .i64 a2] [] = some (.bool r, []) := by
  unfold m45 at h
  rw [evFL_at fn45 (Nat.le_of_ble_eq_true rfl) rfl (.inr rfl) ⟨rfl, rfl⟩]
  obtain ⟨v4, q2, h⟩ := bnd_some h
  have w3 := e45_1 a0 a1 a2 v4 q2
  simp only [X45_1] at w3
  try simp -implicitDefEqProofs only [go_sem, Nat.reduceLT, Nat.reduceAdd, Nat.reduceSub, Nat.reduceMul, Nat.reduceEqDiff, Nat.reduceBEq, Nat.reduceLeDiff, Int.reduceToNat, Int.reduceLT, Int.reduceLE, Int.reduceEq, reduceCtorEq, ↓reduceIte] at w3
  cases h
  simp -implicitDefEqProofs only [go_sem, Nat.reduceLT, Nat.reduceAdd, Nat.reduceSub, Nat.reduceMul, Nat.reduceEqDiff, Nat.reduceBEq, Nat.reduceLeDiff, Int.reduceToNat, Int.reduceLT, Int.reduceLE, Int.reduceEq, reduceCtorEq, ↓reduceIte, i45, c45, w3]
-- f46 spec.l9Apply
theorem call46 (args : List AV) (S : St) : evCall T (evFL T) 46 args S = lendC (evFL T 46) S (lendAll S [[1], [0]] args) := evCall0 fn46 rfl rfl rfl args S
theorem callz46 (args : List AV) (S : St) : evCallFz T (evFL T) 46 args S = lendZ (evFL T 46) S [[0]] (lendAll S [[1], [0]] args) := evCallFz0 fn46 rfl rfl rfl args S
theorem calls46 (args : List AV) (S : St) : evCall (T.at true) (evFL T) 46 args S = lendC (evFL T 46) S (lendAll S [[1], [0]] args) := evCall0 fns46 rfl rfl rfl args S
theorem callsz46 (args : List AV) (S : St) : evCallFz (T.at true) (evFL T) 46 args S = lendZ (evFL T 46) S [[0]] (lendAll S [[1], [0]] args) := evCallFz0 fns46 rfl rfl rfl args S
attribute [go_sem] call46 callz46 calls46 callsz46
noncomputable def X46_3 (a0 : (List Int)) (a1 : Int) (x15 : Int) (p1 : Int) (s13 : Int) (o : Bool) : Ex × Fr × St :=
  (.normal, frOf 35 (upd (upd (upd (upd (upd (upd anyF 0 (.ts .imm 1 (a0.map encInt))) 1 (.int .i64 a1)) 7 (.ts .imm 1 (a0.map encInt))) 8 (.int .i64 p1)) 9 (.int .i64 s13)) 19 (.bool o)), [])
theorem e46_3 (a0 : (List Int)) (a1 : Int) (x15 : Int) (p1 : Int) (s13 : Int) (o : Bool) (h : m46_3 a1 x15 = some o) : evCL T 0 k46_3 (frOf 35 (upd (upd (upd (upd (upd (upd anyF 0 (.ts .imm 1 (a0.map encInt))) 1 (.int .i64 a1)) 6 (.int .i64 x15)) 7 (.ts .imm 1 (a0.map encInt))) 8 (.int .i64 p1)) 9 (.int .i64 s13))) [] = some (X46_3 a0 a1 x15 p1 s13 o) := by
  unfold m46_3 at h
  try simp -implicitDefEqProofs only [go_sem, Nat.reduceLT, Nat.reduceAdd, Nat.reduceSub, Nat.reduceMul, Nat.reduceEqDiff, Nat.reduceBEq, Nat.reduceLeDiff, Int.reduceToNat, Int.reduceLT, Int.reduceLE, Int.reduceEq, reduceCtorEq, ↓reduceIte, X46_3, k46_3]
  cases b20 : (ltI x15 0 : Bool)
  · replace h := br_f b20 h
    cases h
    simp -implicitDefEqProofs only [go_sem, Nat.reduceLT, Nat.reduceAdd, Nat.reduceSub, Nat.reduceMul, Nat.reduceEqDiff, Nat.reduceBEq, Nat.reduceLeDiff, Int.reduceToNat, Int.reduceLT, Int.reduceLE, Int.reduceEq, reduceCtorEq, ↓reduceIte, X46_3, k46_3, b20]
  · replace h := br_t b20 h
    cases h
    simp -implicitDefEqProofs only [go_sem, Nat.reduceLT, Nat.reduceAdd, Nat.reduceSub, Nat.reduceMul, Nat.reduceEqDiff, Nat.reduceBEq, Nat.reduceLeDiff, Int.reduceToNat, Int.reduceLT, Int.reduceLE, Int.reduceEq, reduceCtorEq, ↓reduceIte, X46_3, k46_3, b20]
noncomputable def X46_1 (a0 : (List Int)) (a1 : Int) (p1 : Int) (o : (Unit ⊕ Unit)) : Ex × Fr × St :=
  match o with
  | .inl o => (.exit 0, frOf 35 (upd (upd anyF 0 (.ts .imm 1 (a0.map encInt))) 1 (.int .i64 a1)), [])
  | .inr o => (.ret, frOf 35 (upd anyF 4 (.bool false)), [])
noncomputable def E46_1 (a0 : (List Int)) (a1 : Int) (p1 : Int) (s : Int) : Fr × St := (frOf 35 (upd (upd (upd (upd (upd anyF 0 (.ts .imm 1 (a0.map encInt))) 1 (.int .i64 a1)) 7 (.ts .imm 1 (a0.map encInt))) 8 (.int .i64 p1)) 9 (.int .i64 s)), [])
theorem b46_1 (a0 : (List Int)) (a1 : Int) (p1 : Int) (s : Int) (o : Ctl Int (Unit ⊕ Unit)) (h : m46_1b a0 a1 p1 s = some o) : evCL T 0 k46_1b (E46_1 a0 a1 p1 s).1 (E46_1 a0 a1 p1 s).2 = some (ctlX (E46_1 a0 a1 p1) (X46_1 a0 a1 p1) o) := by
  unfold m46_1b at h
  revert h
  generalize s = s13
  intro h
  try simp -implicitDefEqProofs only [go_sem, Nat.reduceLT, Nat.reduceAdd, Nat.reduceSub, Nat.reduceMul, Nat.reduceEqDiff, Nat.reduceBEq, Nat.reduceLeDiff, Int.reduceToNat, Int.reduceLT, Int.reduceLE, Int.reduceEq, reduceCtorEq, ↓reduceIte, E46_1, X46_1, k46_1b]
  cases b14 : (ltI s13 p1 : Bool)
  · replace h := br_f b14 h
    cases h
    simp -implicitDefEqProofs only [go_sem, Nat.reduceLT, Nat.reduceAdd, Nat.reduceSub, Nat.reduceMul, Nat.reduceEqDiff, Nat.reduceBEq, Nat.reduceLeDiff, Int.reduceToNat, Int.reduceLT, Int.reduceLE, Int.reduceEq, reduceCtorEq, ↓reduceIte, E46_1, X46_1, k46_1b, b14]
  · replace h := br_t b14 h
    obtain ⟨x15, q16, h⟩ := bnd_some h
    obtain ⟨g17, g18, g19⟩ := idx_row encInt q16
    try simp -implicitDefEqProofs only [go_sem, Nat.reduceLT, Nat.reduceAdd, Nat.reduceSub, Nat.reduceMul, Nat.reduceEqDiff, Nat.reduceBEq, Nat.reduceLeDiff, Int.reduceToNat, Int.reduceLT, Int.reduceLE, Int.reduceEq, reduceCtorEq, ↓reduceIte] at g18
    try simp -implicitDefEqProofs only [go_sem, Nat.reduceLT, Nat.reduceAdd, Nat.reduceSub, Nat.reduceMul, Nat.reduceEqDiff, Nat.reduceBEq, Nat.reduceLeDiff, Int.reduceToNat, Int.reduceLT, Int.reduceLE, Int.reduceEq, reduceCtorEq, ↓reduceIte] at g19
    obtain ⟨v23, q21, h⟩ := bnd_some h
    have w22 := e46_3 a0 a1 x15 p1 s13 v23 q21
    simp only [X46_3] at w22
    try simp -implicitDefEqProofs only [go_sem, Nat.reduceLT, Nat.reduceAdd, Nat.reduceSub, Nat.reduceMul, Nat.reduceEqDiff, Nat.reduceBEq, Nat.reduceLeDiff, Int.reduceToNat, Int.reduceLT, Int.reduceLE, Int.reduceEq, reduceCtorEq, ↓reduceIte] at w22
    try simp -implicitDefEqProofs only [go_sem, Nat.reduceLT, Nat.reduceAdd, Nat.reduceSub, Nat.reduceMul, Nat.reduceEqDiff, Nat.reduceBEq, Nat.reduceLeDiff, Int.reduceToNat, Int.reduceLT, Int.reduceLE, Int.reduceEq, reduceCtorEq, ↓reduceIte, E46_1, X46_1, k46_1b, b14, g17, g18, g19, w22]
    cases b24 : (v23 : Bool)
    · replace h := br_f b24 h
      cases h
      simp -implicitDefEqProofs only [go_sem, Nat.reduceLT, Nat.reduceAdd, Nat.reduceSub, Nat.reduceMul, Nat.reduceEqDiff, Nat.reduceBEq, Nat.reduceLeDiff, Int.reduceToNat, Int.reduceLT, Int.reduceLE, Int.reduceEq, reduceCtorEq, ↓reduceIte, E46_1, X46_1, k46_1b, b14, g17, g18, g19, w22, b24]
    · replace h := br_t b24 h
      cases h
      simp -implicitDefEqProofs only [go_sem, Nat.reduceLT, Nat.reduceAdd, Nat.reduceSub, Nat.reduceMul, Nat.reduceEqDiff, Nat.reduceBEq, Nat.reduceLeDiff, Int.reduceToNat, Int.reduceLT, Int.reduceLE, Int.reduceEq, reduceCtorEq, ↓reduceIte, E46_1, X46_1, k46_1b, b14, g17, g18, g19, w22, b24]
theorem e46_1 (a0 : (List Int)) (a1 : Int) (p1 : Int) (s : Int) (o : (Unit ⊕ Unit)) (h : loopP (m46_1b a0 a1 p1) s = some o) : evCL T 0 (.loop k46_1b) (E46_1 a0 a1 p1 s).1 (E46_1 a0 a1 p1 s).2 = some (X46_1 a0 a1 p1 o) :=
  loop_walk (E := E46_1 a0 a1 p1) (X := X46_1 a0 a1 p1) (by intro b; rcases b with b | b <;> (simp only [X46_1]; nofun)) (b46_1 a0 a1 p1) s o h
noncomputable def X46_4 (a0 : (List Int)) (a1 : Int) (o : Bool) : Ex × Fr × St :=
  (.normal, frOf 35 (upd anyF 4 (.bool o)), [])
theorem e46_4 (a0 : (List Int)) (a1 : Int) (o : Bool) (h : m46_4 a0 a1 = some o) : evCL T 0 k46_4 (frOf 35 (upd (upd anyF 0 (.ts .imm 1 (a0.map encInt))) 1 (.int .i64 a1))) [] = some (X46_4 a0 a1 o) := by
  unfold m46_4 at h
  try simp -implicitDefEqProofs only [go_sem, Nat.reduceLT, Nat.reduceAdd, Nat.reduceSub, Nat.reduceMul, Nat.reduceEqDiff, Nat.reduceBEq, Nat.reduceLeDiff, Int.reduceToNat, Int.reduceLT, Int.reduceLE, Int.reduceEq, reduceCtorEq, ↓reduceIte, X46_4, k46_4]
  cases b27 : (eqI (↑a0.length : Int) a1 : Bool)
  · replace h := br_f b27 h
    cases h
    simp -implicitDefEqProofs only [go_sem, Nat.reduceLT, Nat.reduceAdd, Nat.reduceSub, Nat.reduceMul, Nat.reduceEqDiff, Nat.reduceBEq, Nat.reduceLeDiff, Int.reduceToNat, Int.reduceLT, Int.reduceLE, Int.reduceEq, reduceCtorEq, ↓reduceIte, X46_4, k46_4, b27]
  · replace h := br_t b27 h
    obtain ⟨x28, q29, h⟩ := bnd_some h
    obtain ⟨g30, g31, g32⟩ := idx_row encInt q29
    try simp -implicitDefEqProofs only [go_sem, Nat.reduceLT, Nat.reduceAdd, Nat.reduceSub, Nat.reduceMul, Nat.reduceEqDiff, Nat.reduceBEq, Nat.reduceLeDiff, Int.reduceToNat, Int.reduceLT, Int.reduceLE, Int.reduceEq, reduceCtorEq, ↓reduceIte] at g31
    try simp -implicitDefEqProofs only [go_sem, Nat.reduceLT, Nat.reduceAdd, Nat.reduceSub, Nat.reduceMul, Nat.reduceEqDiff, Nat.reduceBEq, Nat.reduceLeDiff, Int.reduceToNat, Int.reduceLT, Int.reduceLE, Int.reduceEq, reduceCtorEq, ↓reduceIte] at g32
    cases h
    simp -implicitDefEqProofs only [go_sem, Nat.reduceLT, Nat.reduceAdd, Nat.reduceSub, Nat.reduceMul, Nat.reduceEqDiff, Nat.reduceBEq, Nat.reduceLeDiff, Int.reduceToNat, Int.reduceLT, Int.reduceLE, Int.reduceEq, reduceCtorEq, ↓reduceIte, X46_4, k46_4, b27, g30, g31, g32]
theorem e46 (a0 : (List Int)) (a1 : Int) (r : Bool) (h : m46 a0 a1 = some r) : evFL T 46 [.ts .imm 1 (a0.map encInt), .int .i64 a1] [] = some (.bool r, []) := by
  unfold m46 at h
  rw [evFL_at fn46 (Nat.le_of_ble_eq_true rfl) rfl (.inr rfl) ⟨rfl, rfl⟩]
  try simp -implicitDefEqProofs only [go_sem, Nat.reduceLT, Nat.reduceAdd, Nat.reduceSub, Nat.reduceMul, Nat.reduceEqDiff, Nat.reduceBEq, Nat.reduceLeDiff, Int.reduceToNat, Int.reduceLT, Int.reduceLE, Int.reduceEq, reduceCtorEq, ↓reduceIte, i46, c46]
  obtain ⟨o, q25, h⟩ := bnd_some h
  rcases o with ⟨⟩ | ⟨⟩
  · replace h := selS_l h
    have w26 := e46_1 a0 a1 (↑a0.length : Int) 0 (.inl ()) q25
    simp only [E46_1, X46_1] at w26
    try simp -implicitDefEqProofs only [go_sem, Nat.reduceLT, Nat.reduceAdd, Nat.reduceSub, Nat.reduceMul, Nat.reduceEqDiff, Nat.reduceBEq, Nat.reduceLeDiff, Int.reduceToNat, Int.reduceLT, Int.reduceLE, Int.reduceEq, reduceCtorEq, ↓reduceIte] at w26
    obtain ⟨v35, q33, h⟩ := bnd_some h
    have w34 := e46_4 a0 a1 v35 q33
    simp only [X46_4] at w34
    try simp -implicitDefEqProofs only [go_sem, Nat.reduceLT, Nat.reduceAdd, Nat.reduceSub, Nat.reduceMul, Nat.reduceEqDiff, Nat.reduceBEq, Nat.reduceLeDiff, Int.reduceToNat, Int.reduceLT, Int.reduceLE, Int.reduceEq, reduceCtorEq, ↓reduceIte] at w34
    cases h
    simp -implicitDefEqProofs only [go_sem, Nat.reduceLT, Nat.reduceAdd, Nat.reduceSub, Nat.reduceMul, Nat.reduceEqDiff, Nat.reduceBEq, Nat.reduceLeDiff, Int.reduceToNat, Int.reduceLT, Int.reduceLE, Int.reduceEq, reduceCtorEq, ↓reduceIte, i46, c46, w26, w34]
  · replace h := selS_r h
    have w26 := e46_1 a0 a1 (↑a0.length : Int) 0 (.inr ()) q25
    simp only [E46_1, X46_1] at w26
    try simp -implicitDefEqProofs only [go_sem, Nat.reduceLT, Nat.reduceAdd, Nat.reduceSub, Nat.reduceMul, Nat.reduceEqDiff, Nat.reduceBEq, Nat.reduceLeDiff, Int.reduceToNat, Int.reduceLT, Int.reduceLE, Int.reduceEq, reduceCtorEq, ↓reduceIte] at w26
    cases h
    simp -implicitDefEqProofs only [go_sem, Nat.reduceLT, Nat.reduceAdd, Nat.reduceSub, Nat.reduceMul, Nat.reduceEqDiff, Nat.reduceBEq, Nat.reduceLeDiff, Int.reduceToNat, Int.reduceLT, Int.reduceLE, Int.reduceEq, reduceCtorEq, ↓reduceIte, i46, c46, w26]
-- f13 spec.GoodAlgebra
theorem call13 (args : List AV) (S : St) : evCall T (evFL T) 13 args S = lendC (evFL T 13) S (lendAll S [[0, 1]] args) := evCall0 fn13 rfl rfl rfl args S
theorem callz13 (args : List AV) (S : St) : evCallFz T (evFL T) 13 args S = lendZ (evFL T 13) S [[0]] (lendAll S [[0, 1]] args) := evCallFz0 fn13 rfl rfl rfl args S
theorem calls13 (args : List AV) (S : St) : evCall (T.at true) (evFL T) 13 args S = lendC (evFL T 13) S (lendAll S [[0, 1]] args) := evCall0 fns13 rfl rfl rfl args S
theorem callsz13 (args : List AV) (S : St) : evCallFz (T.at true) (evFL T) 13 args S = lendZ (evFL T 13) S [[0]] (lendAll S [[0, 1]] args) := evCallFz0 fns13 rfl rfl rfl args S
attribute [go_sem] call13 callz13 calls13 callsz13
noncomputable def X13_1 (a0 : Algebra) (o : Bool) : Ex × Fr × St :=
  (.normal, frOf 29 (upd (upd anyF 1 (.ptr 0 0 0)) 15 (.bool o)), [some ⟨.box, 2, [[.int .i64 a0.weights, .ts .imm 1 (a0.apply.map (encLInt .imm))]]⟩])
theorem e13_1 (a0 : Algebra) (o : Bool) (h : m13_1 a0 = some o) : evCL T 0 k13_1 (frOf 29 (upd anyF 1 (.ptr 0 0 0))) [some ⟨.box, 2, [[.int .i64 a0.weights, .ts .imm 1 (a0.apply.map (encLInt .imm))]]⟩] = some (X13_1 a0 o) := by
  unfold m13_1 at h
  obtain ⟨r3, q1, h⟩ := bnd_some h
  have w2 := e45 a0.weights 2 12 r3 q1
  try simp -implicitDefEqProofs only [go_sem, Nat.reduceLT, Nat.reduceAdd, Nat.reduceSub, Nat.reduceMul, Nat.reduceEqDiff, Nat.reduceBEq, Nat.reduceLeDiff, Int.reduceToNat, Int.reduceLT, Int.reduceLE, Int.reduceEq, reduceCtorEq, ↓reduceIte] at w2
  try simp -implicitDefEqProofs only [go_sem, Nat.reduceLT, Nat.reduceAdd, Nat.reduceSub, Nat.reduceMul, Nat.reduceEqDiff, Nat.reduceBEq, Nat.reduceLeDiff, Int.reduceToNat, Int.reduceLT, Int.reduceLE, Int.reduceEq, reduceCtorEq, ↓reduceIte, X13_1, k13_1, w2]
  cases b4 : (r3 : Bool)
  · replace h := br_f b4 h
    cases h
    simp -implicitDefEqProofs only [go_sem, Nat.reduceLT, Nat.reduceAdd, Nat.reduceSub, Nat.reduceMul, Nat.reduceEqDiff, Nat.reduceBEq, Nat.reduceLeDiff, Int.reduceToNat, Int.reduceLT, Int.reduceLE, Int.reduceEq, reduceCtorEq, ↓reduceIte, X13_1, k13_1, w2, b4]
  · replace h := br_t b4 h
    obtain ⟨r7, q5, h⟩ := bnd_some h
    have w6 := e45 (↑a0.apply.length : Int) 1 4 r7 q5
    try simp -implicitDefEqProofs only [go_sem, Nat.reduceLT, Nat.reduceAdd, Nat.reduceSub, Nat.reduceMul, Nat.reduceEqDiff, Nat.reduceBEq, Nat.reduceLeDiff, Int.reduceToNat, Int.reduceLT, Int.reduceLE, Int.reduceEq, reduceCtorEq, ↓reduceIte] at w6
    cases h
    simp -implicitDefEqProofs only [go_sem, Nat.reduceLT, Nat.reduceAdd, Nat.reduceSub, Nat.reduceMul, Nat.reduceEqDiff, Nat.reduceBEq, Nat.reduceLeDiff, Int.reduceToNat, Int.reduceLT, Int.reduceLE, Int.reduceEq, reduceCtorEq, ↓reduceIte, X13_1, k13_1, w2, b4, w6]
noncomputable def X13_2 (a0 : Algebra) (p12 : Int) (o : (Unit ⊕ Unit)) : Ex × Fr × St :=
  match o with
  | .inl o => (.exit 0, frOf 29 (anyF), [])
  | .inr o => (.ret, frOf 29 (upd anyF 2 (.bool false)), [])
noncomputable def E13_2 (a0 : Algebra) (p12 : Int) (s : Int) : Fr × St := (frOf 29 (upd (upd (upd (upd anyF 1 (.ptr 0 0 0)) 17 (.ts .imm 1 (a0.apply.map (encLInt .imm)))) 18 (.int .i64 p12)) 19 (.int .i64 s)), [some ⟨.box, 2, [[.int .i64 a0.weights, .ts .imm 1 (a0.apply.map (encLInt .imm))]]⟩])
theorem b13_2 (a0 : Algebra) (p12 : Int) (s : Int) (o : Ctl Int (Unit ⊕ Unit)) (h : m13_2b a0 p12 s = some o) : evCL T 0 k13_2b (E13_2 a0 p12 s).1 (E13_2 a0 p12 s).2 = some (ctlX (E13_2 a0 p12) (X13_2 a0 p12) o) := by
  unfold m13_2b at h
  revert h
  generalize s = s23
  intro h
  try simp -implicitDefEqProofs only [go_sem, Nat.reduceLT, Nat.reduceAdd, Nat.reduceSub, Nat.reduceMul, Nat.reduceEqDiff, Nat.reduceBEq, Nat.reduceLeDiff, Int.reduceToNat, Int.reduceLT, Int.reduceLE, Int.reduceEq, reduceCtorEq, ↓reduceIte, E13_2, X13_2, k13_2b]
  cases b24 : (ltI s23 p12 : Bool)
  · replace h := br_f b24 h
    cases h
    simp -implicitDefEqProofs only [go_sem, Nat.reduceLT, Nat.reduceAdd, Nat.reduceSub, Nat.reduceMul, Nat.reduceEqDiff, Nat.reduceBEq, Nat.reduceLeDiff, Int.reduceToNat, Int.reduceLT, Int.reduceLE, Int.reduceEq, reduceCtorEq, ↓reduceIte, E13_2, X13_2, k13_2b, b24]
  · replace h := br_t b24 h
    obtain ⟨x25, q26, h⟩ := bnd_some h
    obtain ⟨g27, g28, g29⟩ := idx_row (encLInt .imm) q26
    try simp -implicitDefEqProofs only [go_sem, Nat.reduceLT, Nat.reduceAdd, Nat.reduceSub, Nat.reduceMul, Nat.reduceEqDiff, Nat.reduceBEq, Nat.reduceLeDiff, Int.reduceToNat, Int.reduceLT, Int.reduceLE, Int.reduceEq, reduceCtorEq, ↓reduceIte] at g28
    try simp -implicitDefEqProofs only [go_sem, Nat.reduceLT, Nat.reduceAdd, Nat.reduceSub, Nat.reduceMul, Nat.reduceEqDiff, Nat.reduceBEq, Nat.reduceLeDiff, Int.reduceToNat, Int.reduceLT, Int.reduceLE, Int.reduceEq, reduceCtorEq, ↓reduceIte] at g29
    obtain ⟨r32, q30, h⟩ := bnd_some h
    have w31 := e46 x25 a0.weights r32 q30
    try simp -implicitDefEqProofs only [go_sem, Nat.reduceLT, Nat.reduceAdd, Nat.reduceSub, Nat.reduceMul, Nat.reduceEqDiff, Nat.reduceBEq, Nat.reduceLeDiff, Int.reduceToNat, Int.reduceLT, Int.reduceLE, Int.reduceEq, reduceCtorEq, ↓reduceIte] at w31
    try simp -implicitDefEqProofs only [go_sem, Nat.reduceLT, Nat.reduceAdd, Nat.reduceSub, Nat.reduceMul, Nat.reduceEqDiff, Nat.reduceBEq, Nat.reduceLeDiff, Int.reduceToNat, Int.reduceLT, Int.reduceLE, Int.reduceEq, reduceCtorEq, ↓reduceIte, E13_2, X13_2, k13_2b, b24, g27, g28, g29, w31]
    cases b33 : (r32 : Bool)
    · replace h := br_f b33 h
      cases h
      simp -implicitDefEqProofs only [go_sem, Nat.reduceLT, Nat.reduceAdd, Nat.reduceSub, Nat.reduceMul, Nat.reduceEqDiff, Nat.reduceBEq, Nat.reduceLeDiff, Int.reduceToNat, Int.reduceLT, Int.reduceLE, Int.reduceEq, reduceCtorEq, ↓reduceIte, E13_2, X13_2, k13_2b, b24, g27, g28, g29, w31, b33]
    · replace h := br_t b33 h
      cases h
      simp -implicitDefEqProofs only [go_sem, Nat.reduceLT, Nat.reduceAdd, Nat.reduceSub, Nat.reduceMul, Nat.reduceEqDiff, Nat.reduceBEq, Nat.reduceLeDiff, Int.reduceToNat, Int.reduceLT, Int.reduceLE, Int.reduceEq, reduceCtorEq, ↓reduceIte, E13_2, X13_2, k13_2b, b24, g27, g28, g29, w31, b33]
theorem e13_2 (a0 : Algebra) (p12 : Int) (s : Int) (o : (Unit ⊕ Unit)) (h : loopP (m13_2b a0 p12) s = some o) : evCL T 0 (.loop k13_2b) (E13_2 a0 p12 s).1 (E13_2 a0 p12 s).2 = some (X13_2 a0 p12 o) :=
  loop_walk (E := E13_2 a0 p12) (X := X13_2 a0 p12) (by intro b; rcases b with b | b <;> (simp only [X13_2]; nofun)) (b13_2 a0 p12) s o h
theorem e13 (a0 : Algebra) (r : Bool) (h : m13 a0 = some r) : evFL T 13 [.agg [.int .i64 a0.weights, .ts .imm 1 (a0.apply.map (encLInt .imm))]] [] = some (.bool r, []) := by
  unfold m13 at h
  rw [evFL_at fn13 (Nat.le_of_ble_eq_true rfl) rfl (.inr rfl) ⟨rfl, rfl⟩]
  obtain ⟨v10, q8, h⟩ := bnd_some h
  have w9 := e13_1 a0 v10 q8
  simp only [X13_1] at w9
  try simp -implicitDefEqProofs only [go_sem, Nat.reduceLT, Nat.reduceAdd, Nat.reduceSub, Nat.reduceMul, Nat.reduceEqDiff, Nat.reduceBEq, Nat.reduceLeDiff, Int.reduceToNat, Int.reduceLT, Int.reduceLE, Int.reduceEq, reduceCtorEq, ↓reduceIte] at w9
  try simp -implicitDefEqProofs only [go_sem, Nat.reduceLT, Nat.reduceAdd, Nat.reduceSub, Nat.reduceMul, Nat.reduceEqDiff, Nat.reduceBEq, Nat.reduceLeDiff, Int.reduceToNat, Int.reduceLT, Int.reduceLE, Int.reduceEq, reduceCtorEq, ↓reduceIte, i13, c13, w9]
  cases b11 : (v10 : Bool)
  · replace h := br_f b11 h
    try simp -implicitDefEqProofs only [go_sem, Nat.reduceLT, Nat.reduceAdd, Nat.reduceSub, Nat.reduceMul, Nat.reduceEqDiff, Nat.reduceBEq, Nat.reduceLeDiff, Int.reduceToNat, Int.reduceLT, Int.reduceLE, Int.reduceEq, reduceCtorEq, ↓reduceIte, i13, c13, w9, b11]
    obtain ⟨o, q34, h⟩ := bnd_some h
    rcases o with ⟨⟩ | ⟨⟩
    · replace h := selS_l h
      have w35 := e13_2 a0 (↑a0.apply.length : Int) 0 (.inl ()) q34
      simp only [E13_2, X13_2] at w35
      try simp -implicitDefEqProofs only [go_sem, Nat.reduceLT, Nat.reduceAdd, Nat.reduceSub, Nat.reduceMul, Nat.reduceEqDiff, Nat.reduceBEq, Nat.reduceLeDiff, Int.reduceToNat, Int.reduceLT, Int.reduceLE, Int.reduceEq, reduceCtorEq, ↓reduceIte] at w35
      cases h
      simp -implicitDefEqProofs only [go_sem, Nat.reduceLT, Nat.reduceAdd, Nat.reduceSub, Nat.reduceMul, Nat.reduceEqDiff, Nat.reduceBEq, Nat.reduceLeDiff, Int.reduceToNat, Int.reduceLT, Int.reduceLE, Int.reduceEq, reduceCtorEq, ↓reduceIte, i13, c13, w9, b11, w35]
    · replace h := selS_r h
      have w35 := e13_2 a0 (↑a0.apply.length : Int) 0 (.inr ()) q34
      simp only [E13_2, X13_2] at w35
      try simp -implicitDefEqProofs only [go_sem, Nat.reduceLT, Nat.reduceAdd, Nat.reduceSub, Nat.reduceMul, Nat.reduceEqDiff, Nat.reduceBEq, Nat.reduceLeDiff, Int.reduceToNat, Int.reduceLT, Int.reduceLE, Int.reduceEq, reduceCtorEq, ↓reduceIte] at w35
      cases h
      simp -implicitDefEqProofs only [go_sem, Nat.reduceLT, Nat.reduceAdd, Nat.reduceSub, Nat.reduceMul, Nat.reduceEqDiff, Nat.reduceBEq, Nat.reduceLeDiff, Int.reduceToNat, Int.reduceLT, Int.reduceLE, Int.reduceEq, reduceCtorEq, ↓reduceIte, i13, c13, w9, b11, w35]
  · replace h := br_t b11 h
    cases h
    simp -implicitDefEqProofs only [go_sem, Nat.reduceLT, Nat.reduceAdd, Nat.reduceSub, Nat.reduceMul, Nat.reduceEqDiff, Nat.reduceBEq, Nat.reduceLeDiff, Int.reduceToNat, Int.reduceLT, Int.reduceLE, Int.reduceEq, reduceCtorEq, ↓reduceIte, i13, c13, w9, b11]
-- f59 spec.l9Arcs
theorem call59 (args : List AV) (S : St) : evCall T (evFL T) 59 args S = lendC (evFL T 59) S (lendAll S [[0, 1], [3]] args) := evCall0 fn59 rfl rfl rfl args S
theorem callz59 (args : List AV) (S : St) : evCallFz T (evFL T) 59 args S = lendZ (evFL T 59) S [[0]] (lendAll S [[0, 1], [3]] args) := evCallFz0 fn59 rfl rfl rfl args S
theorem calls59 (args : List AV) (S : St) : evCall (T.at true) (evFL T) 59 args S = lendC (evFL T 59) S (lendAll S [[0, 1], [3]] args) := evCall0 fns59 rfl rfl rfl args S
theorem callsz59 (args : List AV) (S : St) : evCallFz (T.at true) (evFL T) 59 args S = lendZ (evFL T 59) S [[0]] (lendAll S [[0, 1], [3]] args) := evCallFz0 fns59 rfl rfl rfl args S
attribute [go_sem] call59 callz59 calls59 callsz59
noncomputable def X59_3 (a1 : (List Arc)) (p1 : Int) (s22 : Int) (a0 : Algebra) (x24 : Arc) (o : Bool) : Ex × Fr × St :=
  (.normal, frOf 51 (upd (upd (upd (upd (upd (upd anyF 1 (.ts .imm 3 (a1.map encArc))) 2 (.ptr 0 0 0)) 7 (.ts .imm 3 (a1.map encArc))) 8 (.int .i64 p1)) 9 (.int .i64 s22)) 42 (.bool o)), [some ⟨.box, 2, [[.int .i64 a0.weights, .ts .imm 1 (a0.apply.map (encLInt .imm))]]⟩])
theorem e59_3 (a1 : (List Arc)) (p1 : Int) (s22 : Int) (a0 : Algebra) (x24 : Arc) (o : Bool) (h : m59_3 a0 x24 = some o) : evCL T 0 k59_3 (frOf 51 (upd (upd (upd (upd (upd (upd anyF 1 (.ts .imm 3 (a1.map encArc))) 2 (.ptr 0 0 0)) 6 (.ptr 1 0 0)) 7 (.ts .imm 3 (a1.map encArc))) 8 (.int .i64 p1)) 9 (.int .i64 s22))) [some ⟨.box, 2, [[.int .i64 a0.weights, .ts .imm 1 (a0.apply.map (encLInt .imm))]]⟩, some ⟨.box, 3, [[.int .i64 x24.from_, .int .i64 x24.to, .int .i64 x24.label]]⟩] = some (X59_3 a1 p1 s22 a0 x24 o) := by
  unfold m59_3 at h
  obtain ⟨r31, q29, h⟩ := bnd_some h
  have w30 := e45 x24.from_ 0 5 r31 q29
  try simp -implicitDefEqProofs only [go_sem, Nat.reduceLT, Nat.reduceAdd, Nat.reduceSub, Nat.reduceMul, Nat.reduceEqDiff, Nat.reduceBEq, Nat.reduceLeDiff, Int.reduceToNat, Int.reduceLT, Int.reduceLE, Int.reduceEq, reduceCtorEq, ↓reduceIte] at w30
  try simp -implicitDefEqProofs only [go_sem, Nat.reduceLT, Nat.reduceAdd, Nat.reduceSub, Nat.reduceMul, Nat.reduceEqDiff, Nat.reduceBEq, Nat.reduceLeDiff, Int.reduceToNat, Int.reduceLT, Int.reduceLE, Int.reduceEq, reduceCtorEq, ↓reduceIte, X59_3, k59_3, w30]
  cases b32 : (r31 : Bool)
  · replace h := br_f b32 h
    cases h
    simp -implicitDefEqProofs only [go_sem, Nat.reduceLT, Nat.reduceAdd, Nat.reduceSub, Nat.reduceMul, Nat.reduceEqDiff, Nat.reduceBEq, Nat.reduceLeDiff, Int.reduceToNat, Int.reduceLT, Int.reduceLE, Int.reduceEq, reduceCtorEq, ↓reduceIte, X59_3, k59_3, w30, b32]
  · replace h := br_t b32 h
    obtain ⟨r35, q33, h⟩ := bnd_some h
    have w34 := e45 x24.to 0 5 r35 q33
    try simp -implicitDefEqProofs only [go_sem, Nat.reduceLT, Nat.reduceAdd, Nat.reduceSub, Nat.reduceMul, Nat.reduceEqDiff, Nat.reduceBEq, Nat.reduceLeDiff, Int.reduceToNat, Int.reduceLT, Int.reduceLE, Int.reduceEq, reduceCtorEq, ↓reduceIte] at w34
    try simp -implicitDefEqProofs only [go_sem, Nat.reduceLT, Nat.reduceAdd, Nat.reduceSub, Nat.reduceMul, Nat.reduceEqDiff, Nat.reduceBEq, Nat.reduceLeDiff, Int.reduceToNat, Int.reduceLT, Int.reduceLE, Int.reduceEq, reduceCtorEq, ↓reduceIte, X59_3, k59_3, w30, b32, w34]
    cases b36 : (r35 : Bool)
    · replace h := br_f b36 h
      cases h
      simp -implicitDefEqProofs only [go_sem, Nat.reduceLT, Nat.reduceAdd, Nat.reduceSub, Nat.reduceMul, Nat.reduceEqDiff, Nat.reduceBEq, Nat.reduceLeDiff, Int.reduceToNat, Int.reduceLT, Int.reduceLE, Int.reduceEq, reduceCtorEq, ↓reduceIte, X59_3, k59_3, w30, b32, w34, b36]
    · replace h := br_t b36 h
      try simp -implicitDefEqProofs only [go_sem, Nat.reduceLT, Nat.reduceAdd, Nat.reduceSub, Nat.reduceMul, Nat.reduceEqDiff, Nat.reduceBEq, Nat.reduceLeDiff, Int.reduceToNat, Int.reduceLT, Int.reduceLE, Int.reduceEq, reduceCtorEq, ↓reduceIte, X59_3, k59_3, w30, b32, w34, b36]
      cases b37 : (eqI x24.from_ x24.to : Bool)
      · replace h := br_f b37 h
        try simp -implicitDefEqProofs only [go_sem, Nat.reduceLT, Nat.reduceAdd, Nat.reduceSub, Nat.reduceMul, Nat.reduceEqDiff, Nat.reduceBEq, Nat.reduceLeDiff, Int.reduceToNat, Int.reduceLT, Int.reduceLE, Int.reduceEq, reduceCtorEq, ↓reduceIte, X59_3, k59_3, w30, b32, w34, b36, b37]
        cases b38 : (ltI x24.label 0 : Bool)
        · replace h := br_f b38 h
          cases h
          simp -implicitDefEqProofs only [go_sem, Nat.reduceLT, Nat.reduceAdd, Nat.reduceSub, Nat.reduceMul, Nat.reduceEqDiff, Nat.reduceBEq, Nat.reduceLeDiff, Int.reduceToNat, Int.reduceLT, Int.reduceLE, Int.reduceEq, reduceCtorEq, ↓reduceIte, X59_3, k59_3, w30, b32, w34, b36, b37, b38]
        · replace h := br_t b38 h
          cases h
          simp -implicitDefEqProofs only [go_sem, Nat.reduceLT, Nat.reduceAdd, Nat.reduceSub, Nat.reduceMul, Nat.reduceEqDiff, Nat.reduceBEq, Nat.reduceLeDiff, Int.reduceToNat, Int.reduceLT, Int.reduceLE, Int.reduceEq, reduceCtorEq, ↓reduceIte, X59_3, k59_3, w30, b32, w34, b36, b37, b38]
      · replace h := br_t b37 h
        cases h
        simp -implicitDefEqProofs only [go_sem, Nat.reduceLT, Nat.reduceAdd, Nat.reduceSub, Nat.reduceMul, Nat.reduceEqDiff, Nat.reduceBEq, Nat.reduceLeDiff, Int.reduceToNat, Int.reduceLT, Int.reduceLE, Int.reduceEq, reduceCtorEq, ↓reduceIte, X59_3, k59_3, w30, b32, w34, b36, b37]
noncomputable def X59_1 (a1 : (List Arc)) (p1 : Int) (a0 : Algebra) (o : (Unit ⊕ Unit)) : Ex × Fr × St :=
  match o with
  | .inl o => (.exit 0, frOf 51 (upd (upd anyF 1 (.ts .imm 3 (a1.map encArc))) 2 (.ptr 0 0 0)), [some ⟨.box, 2, [[.int .i64 a0.weights, .ts .imm 1 (a0.apply.map (encLInt .imm))]]⟩])
  | .inr o => (.ret, frOf 51 (upd anyF 4 (.bool false)), [])
noncomputable def E59_1 (a1 : (List Arc)) (p1 : Int) (a0 : Algebra) (s : Int) : Fr × St := (frOf 51 (upd (upd (upd (upd (upd anyF 1 (.ts .imm 3 (a1.map encArc))) 2 (.ptr 0 0 0)) 7 (.ts .imm 3 (a1.map encArc))) 8 (.int .i64 p1)) 9 (.int .i64 s)), [some ⟨.box, 2, [[.int .i64 a0.weights, .ts .imm 1 (a0.apply.map (encLInt .imm))]]⟩])
theorem b59_1 (a1 : (List Arc)) (p1 : Int) (a0 : Algebra) (s : Int) (o : Ctl Int (Unit ⊕ Unit)) (h : m59_1b a1 p1 a0 s = some o) : evCL T 0 k59_1b (E59_1 a1 p1 a0 s).1 (E59_1 a1 p1 a0 s).2 = some (ctlX (E59_1 a1 p1 a0) (X59_1 a1 p1 a0) o) := by
  unfold m59_1b at h
  revert h
  generalize s = s22
  intro h
  try simp -implicitDefEqProofs only [go_sem, Nat.reduceLT, Nat.reduceAdd, Nat.reduceSub, Nat.reduceMul, Nat.reduceEqDiff, Nat.reduceBEq, Nat.reduceLeDiff, Int.reduceToNat, Int.reduceLT, Int.reduceLE, Int.reduceEq, reduceCtorEq, ↓reduceIte, E59_1, X59_1, k59_1b]
  cases b23 : (ltI s22 p1 : Bool)
  · replace h := br_f b23 h
    cases h
    simp -implicitDefEqProofs only [go_sem, Nat.reduceLT, Nat.reduceAdd, Nat.reduceSub, Nat.reduceMul, Nat.reduceEqDiff, Nat.reduceBEq, Nat.reduceLeDiff, Int.reduceToNat, Int.reduceLT, Int.reduceLE, Int.reduceEq, reduceCtorEq, ↓reduceIte, E59_1, X59_1, k59_1b, b23]
  · replace h := br_t b23 h
    obtain ⟨x24, q25, h⟩ := bnd_some h
    obtain ⟨g26, g27, g28⟩ := idx_row encArc q25
    try simp -implicitDefEqProofs only [go_sem, Nat.reduceLT, Nat.reduceAdd, Nat.reduceSub, Nat.reduceMul, Nat.reduceEqDiff, Nat.reduceBEq, Nat.reduceLeDiff, Int.reduceToNat, Int.reduceLT, Int.reduceLE, Int.reduceEq, reduceCtorEq, ↓reduceIte] at g27
    try simp -implicitDefEqProofs only [go_sem, Nat.reduceLT, Nat.reduceAdd, Nat.reduceSub, Nat.reduceMul, Nat.reduceEqDiff, Nat.reduceBEq, Nat.reduceLeDiff, Int.reduceToNat, Int.reduceLT, Int.reduceLE, Int.reduceEq, reduceCtorEq, ↓reduceIte] at g28
    obtain ⟨v41, q39, h⟩ := bnd_some h
    have w40 := e59_3 a1 p1 s22 a0 x24 v41 q39
    simp only [X59_3] at w40
    try simp -implicitDefEqProofs only [go_sem, Nat.reduceLT, Nat.reduceAdd, Nat.reduceSub, Nat.reduceMul, Nat.reduceEqDiff, Nat.reduceBEq, Nat.reduceLeDiff, Int.reduceToNat, Int.reduceLT, Int.reduceLE, Int.reduceEq, reduceCtorEq, ↓reduceIte] at w40
    try simp -implicitDefEqProofs only [go_sem, Nat.reduceLT, Nat.reduceAdd, Nat.reduceSub, Nat.reduceMul, Nat.reduceEqDiff, Nat.reduceBEq, Nat.reduceLeDiff, Int.reduceToNat, Int.reduceLT, Int.reduceLE, Int.reduceEq, reduceCtorEq, ↓reduceIte, E59_1, X59_1, k59_1b, b23, g26, g27, g28, w40]
    cases b42 : (v41 : Bool)
    · replace h := br_f b42 h
      cases h
      simp -implicitDefEqProofs only [go_sem, Nat.reduceLT, Nat.reduceAdd, Nat.reduceSub, Nat.reduceMul, Nat.reduceEqDiff, Nat.reduceBEq, Nat.reduceLeDiff, Int.reduceToNat, Int.reduceLT, Int.reduceLE, Int.reduceEq, reduceCtorEq, ↓reduceIte, E59_1, X59_1, k59_1b, b23, g26, g27, g28, w40, b42]
    · replace h := br_t b42 h
      cases h
      simp -implicitDefEqProofs only [go_sem, Nat.reduceLT, Nat.reduceAdd, Nat.reduceSub, Nat.reduceMul, Nat.reduceEqDiff, Nat.reduceBEq, Nat.reduceLeDiff, Int.reduceToNat, Int.reduceLT, Int.reduceLE, Int.reduceEq, reduceCtorEq, ↓reduceIte, E59_1, X59_1, k59_1b, b23, g26, g27, g28, w40, b42]
theorem e59_1 (a1 : (List Arc)) (p1 : Int) (a0 : Algebra) (s : Int) (o : (Unit ⊕ Unit)) (h : loopP (m59_1b a1 p1 a0) s = some o) : evCL T 0 (.loop k59_1b) (E59_1 a1 p1 a0 s).1 (E59_1 a1 p1 a0 s).2 = some (X59_1 a1 p1 a0 o) :=
  loop_walk (E := E59_1 a1 p1 a0) (X := X59_1 a1 p1 a0) (by intro b; rcases b with b | b <;> (simp only [X59_1]; nofun)) (b59_1 a1 p1 a0) s o h
noncomputable def X59_4 (a1 : (List Arc)) (a0 : Algebra) (o : Bool) : Ex × Fr × St :=
  (.normal, frOf 51 (upd anyF 4 (.bool o)), [])
theorem e59_4 (a1 : (List Arc)) (a0 : Algebra) (o : Bool) (h : m59_4 a1 a0 = some o) : evCL T 0 k59_4 (frOf 51 (upd (upd anyF 1 (.ts .imm 3 (a1.map encArc))) 2 (.ptr 0 0 0))) [some ⟨.box, 2, [[.int .i64 a0.weights, .ts .imm 1 (a0.apply.map (encLInt .imm))]]⟩] = some (X59_4 a1 a0 o) := by
  unfold m59_4 at h
  obtain ⟨r47, q45, h⟩ := bnd_some h
  have w46 := e13 a0 r47 q45
  try simp -implicitDefEqProofs only [go_sem, Nat.reduceLT, Nat.reduceAdd, Nat.reduceSub, Nat.reduceMul, Nat.reduceEqDiff, Nat.reduceBEq, Nat.reduceLeDiff, Int.reduceToNat, Int.reduceLT, Int.reduceLE, Int.reduceEq, reduceCtorEq, ↓reduceIte] at w46
  try simp -implicitDefEqProofs only [go_sem, Nat.reduceLT, Nat.reduceAdd, Nat.reduceSub, Nat.reduceMul, Nat.reduceEqDiff, Nat.reduceBEq, Nat.reduceLeDiff, Int.reduceToNat, Int.reduceLT, Int.reduceLE, Int.reduceEq, reduceCtorEq, ↓reduceIte, X59_4, k59_4, w46]
  cases b48 : (r47 : Bool)
  · replace h := br_f b48 h
    cases h
    simp -implicitDefEqProofs only [go_sem, Nat.reduceLT, Nat.reduceAdd, Nat.reduceSub, Nat.reduceMul, Nat.reduceEqDiff, Nat.reduceBEq, Nat.reduceLeDiff, Int.reduceToNat, Int.reduceLT, Int.reduceLE, Int.reduceEq, reduceCtorEq, ↓reduceIte, X59_4, k59_4, w46, b48]
  · replace h := br_t b48 h
    cases h
    simp -implicitDefEqProofs only [go_sem, Nat.reduceLT, Nat.reduceAdd, Nat.reduceSub, Nat.reduceMul, Nat.reduceEqDiff, Nat.reduceBEq, Nat.reduceLeDiff, Int.reduceToNat, Int.reduceLT, Int.reduceLE, Int.reduceEq, reduceCtorEq, ↓reduceIte, X59_4, k59_4, w46, b48]
theorem e59 (a0 : Algebra) (a1 : (List Arc)) (r : Bool) (h : m59 a0 a1 = some r) : evFL T 59 [.agg [.int .i64 a0.weights, .ts .imm 1 (a0.apply.map (encLInt .imm))], .ts .imm 3 (a1.map encArc)] [] = some (.bool r, []) := by
  unfold m59 at h
  rw [evFL_at fn59 (Nat.le_of_ble_eq_true rfl) rfl (.inr rfl) ⟨rfl, rfl⟩]
  try simp -implicitDefEqProofs only [go_sem, Nat.reduceLT, Nat.reduceAdd, Nat.reduceSub, Nat.reduceMul, Nat.reduceEqDiff, Nat.reduceBEq, Nat.reduceLeDiff, Int.reduceToNat, Int.reduceLT, Int.reduceLE, Int.reduceEq, reduceCtorEq, ↓reduceIte, i59, c59]
  obtain ⟨o, q43, h⟩ := bnd_some h
  rcases o with ⟨⟩ | ⟨⟩
  · replace h := selS_l h
    have w44 := e59_1 a1 (↑a1.length : Int) a0 0 (.inl ()) q43
    simp only [E59_1, X59_1] at w44
    try simp -implicitDefEqProofs only [go_sem, Nat.reduceLT, Nat.reduceAdd, Nat.reduceSub, Nat.reduceMul, Nat.reduceEqDiff, Nat.reduceBEq, Nat.reduceLeDiff, Int.reduceToNat, Int.reduceLT, Int.reduceLE, Int.reduceEq, reduceCtorEq, ↓reduceIte] at w44
    obtain ⟨v51, q49, h⟩ := bnd_some h
    have w50 := e59_4 a1 a0 v51 q49
    simp only [X59_4] at w50
    try simp -implicitDefEqProofs only [go_sem, Nat.reduceLT, Nat.reduceAdd, Nat.reduceSub, Nat.reduceMul, Nat.reduceEqDiff, Nat.reduceBEq, Nat.reduceLeDiff, Int.reduceToNat, Int.reduceLT, Int.reduceLE, Int.reduceEq, reduceCtorEq, ↓reduceIte] at w50
    cases h
    simp -implicitDefEqProofs only [go_sem, Nat.reduceLT, Nat.reduceAdd, Nat.reduceSub, Nat.reduceMul, Nat.reduceEqDiff, Nat.reduceBEq, Nat.reduceLeDiff, Int.reduceToNat, Int.reduceLT, Int.reduceLE, Int.reduceEq, reduceCtorEq, ↓reduceIte, i59, c59, w44, w50]
  · replace h := selS_r h
    have w44 := e59_1 a1 (↑a1.length : Int) a0 0 (.inr ()) q43
    simp only [E59_1, X59_1] at w44
    try simp -implicitDefEqProofs only [go_sem, Nat.reduceLT, Nat.reduceAdd, Nat.reduceSub, Nat.reduceMul, Nat.reduceEqDiff, Nat.reduceBEq, Nat.reduceLeDiff, Int.reduceToNat, Int.reduceLT, Int.reduceLE, Int.reduceEq, reduceCtorEq, ↓reduceIte] at w44
    cases h
    simp -implicitDefEqProofs only [go_sem, Nat.reduceLT, Nat.reduceAdd, Nat.reduceSub, Nat.reduceMul, Nat.reduceEqDiff, Nat.reduceBEq, Nat.reduceLeDiff, Int.reduceToNat, Int.reduceLT, Int.reduceLE, Int.reduceEq, reduceCtorEq, ↓reduceIte, i59, c59, w44]
-- f68 spec.l9None
theorem call68 (args : List AV) (S : St) : evCall T (evFL T) 68 args S = lendC (evFL T 68) S (lendAll S [[0, 1]] args) := evCall0 fn68 rfl rfl rfl args S
theorem callz68 (args : List AV) (S : St) : evCallFz T (evFL T) 68 args S = lendZ (evFL T 68) S [[1]] (lendAll S [[0, 1]] args) := evCallFz0 fn68 rfl rfl rfl args S
theorem calls68 (args : List AV) (S : St) : evCall (T.at true) (evFL T) 68 args S = lendC (evFL T 68) S (lendAll S [[0, 1]] args) := evCall0 fns68 rfl rfl rfl args S
theorem callsz68 (args : List AV) (S : St) : evCallFz (T.at true) (evFL T) 68 args S = lendZ (evFL T 68) S [[1]] (lendAll S [[0, 1]] args) := evCallFz0 fns68 rfl rfl rfl args S
attribute [go_sem] call68 callz68 calls68 callsz68
noncomputable def X68_1 (a0 : Algebra) (o : (List Int)) : Ex × Fr × St :=
  (.exit 0, frOf 16 (upd anyF 3 (.sl 0 0 o.length)), [some ⟨.arr, 1, o.map encInt⟩])
noncomputable def E68_1 (a0 : Algebra) (s : (Int × List Int)) : Fr × St := (frOf 16 (upd (upd (upd anyF 1 (.ptr 0 0 0)) 3 (.sl 1 0 s.2.length)) 4 (.int .i64 s.1)), [some ⟨.box, 2, [[.int .i64 a0.weights, .ts .imm 1 (a0.apply.map (encLInt .imm))]]⟩, some ⟨.arr, 1, s.2.map encInt⟩])
theorem b68_1 (a0 : Algebra) (s : (Int × List Int)) (o : Ctl (Int × List Int) (List Int)) (h : m68_1b a0 s = some o) : evCL T 0 k68_1b (E68_1 a0 s).1 (E68_1 a0 s).2 = some (ctlX (E68_1 a0) (X68_1 a0) o) := by
  unfold m68_1b at h
  obtain ⟨s2, s3⟩ := s
  replace h := sel2_some h
  try simp -implicitDefEqProofs only [go_sem, Nat.reduceLT, Nat.reduceAdd, Nat.reduceSub, Nat.reduceMul, Nat.reduceEqDiff, Nat.reduceBEq, Nat.reduceLeDiff, Int.reduceToNat, Int.reduceLT, Int.reduceLE, Int.reduceEq, reduceCtorEq, ↓reduceIte, E68_1, X68_1, k68_1b]
  cases b4 : (ltI s2 6 : Bool)
  · replace h := br_f b4 h
    cases h
    simp -implicitDefEqProofs only [go_sem, Nat.reduceLT, Nat.reduceAdd, Nat.reduceSub, Nat.reduceMul, Nat.reduceEqDiff, Nat.reduceBEq, Nat.reduceLeDiff, Int.reduceToNat, Int.reduceLT, Int.reduceLE, Int.reduceEq, reduceCtorEq, ↓reduceIte, E68_1, X68_1, k68_1b, b4]
  · replace h := br_t b4 h
    obtain ⟨g5, h⟩ := ck_some h
    try simp -implicitDefEqProofs only [go_sem, Nat.reduceLT, Nat.reduceAdd, Nat.reduceSub, Nat.reduceMul, Nat.reduceEqDiff, Nat.reduceBEq, Nat.reduceLeDiff, Int.reduceToNat, Int.reduceLT, Int.reduceLE, Int.reduceEq, reduceCtorEq, ↓reduceIte] at g5
    cases h
    simp -implicitDefEqProofs only [go_sem, Nat.reduceLT, Nat.reduceAdd, Nat.reduceSub, Nat.reduceMul, Nat.reduceEqDiff, Nat.reduceBEq, Nat.reduceLeDiff, Int.reduceToNat, Int.reduceLT, Int.reduceLE, Int.reduceEq, reduceCtorEq, ↓reduceIte, E68_1, X68_1, k68_1b, b4, g5]
theorem e68_1 (a0 : Algebra) (s : (Int × List Int)) (o : (List Int)) (h : loopP (m68_1b a0) s = some o) : evCL T 0 (.loop k68_1b) (E68_1 a0 s).1 (E68_1 a0 s).2 = some (X68_1 a0 o) :=
  loop_walk (E := E68_1 a0) (X := X68_1 a0) (by intro b; (simp only [X68_1]; nofun)) (b68_1 a0) s o h
theorem e68 (a0 : Algebra) (r : (List Int)) (h : m68 a0 = some r) : evFL T 68 [.agg [.int .i64 a0.weights, .ts .imm 1 (a0.apply.map (encLInt .imm))]] [] = some (.sl 0 0 r.length, [some ⟨.arr, 1, r.map encInt⟩]) := by
  unfold m68 at h
  rw [evFL_at fn68 (Nat.le_of_ble_eq_true rfl) rfl (.inr rfl) ⟨rfl, rfl⟩]
  obtain ⟨v8, q6, h⟩ := bnd_some h
  have w7 := e68_1 a0 (0, []) v8 q6
  simp only [E68_1, X68_1] at w7
  try simp -implicitDefEqProofs only [go_sem, Nat.reduceLT, Nat.reduceAdd, Nat.reduceSub, Nat.reduceMul, Nat.reduceEqDiff, Nat.reduceBEq, Nat.reduceLeDiff, Int.reduceToNat, Int.reduceLT, Int.reduceLE, Int.reduceEq, reduceCtorEq, ↓reduceIte] at w7
  cases h
  simp -implicitDefEqProofs only [go_sem, Nat.reduceLT, Nat.reduceAdd, Nat.reduceSub, Nat.reduceMul, Nat.reduceEqDiff, Nat.reduceBEq, Nat.reduceLeDiff, Int.reduceToNat, Int.reduceLT, Int.reduceLE, Int.reduceEq, reduceCtorEq, ↓reduceIte, i68, c68, w7]
-- f61 spec.l9Arc
theorem call61 (args : List AV) (S : St) : evCall T (evFL T) 61 args S = lendC (evFL T 61) S (lendAll S [[3], [0], [0]] args) := evCall0 fn61 rfl rfl rfl args S
theorem callz61 (args : List AV) (S : St) : evCallFz T (evFL T) 61 args S = lendZ (evFL T 61) S [[0]] (lendAll S [[3], [0], [0]] args) := evCallFz0 fn61 rfl rfl rfl args S
theorem calls61 (args : List AV) (S : St) : evCall (T.at true) (evFL T) 61 args S = lendC (evFL T 61) S (lendAll S [[3], [0], [0]] args) := evCall0 fns61 rfl rfl rfl args S
theorem callsz61 (args : List AV) (S : St) : evCallFz (T.at true) (evFL T) 61 args S = lendZ (evFL T 61) S [[0]] (lendAll S [[3], [0], [0]] args) := evCallFz0 fns61 rfl rfl rfl args S
attribute [go_sem] call61 callz61 calls61 callsz61
noncomputable def X61_3 (a1 : Int) (a2 : Int) (a0 : (List Arc)) (p1 : Int) (s13 : Int) (x15 : Arc) (o : Bool) : Ex × Fr × St :=
  (.normal, frOf 28 (upd (upd (upd (upd (upd (upd (upd anyF 1 (.int .i64 a1)) 2 (.int .i64 a2)) 8 (.ptr 0 0 0)) 9 (.ts .imm 3 (a0.map encArc))) 10 (.int .i64 p1)) 11 (.int .i64 s13)) 24 (.bool o)), [some ⟨.box, 3, [[.int .i64 x15.from_, .int .i64 x15.to, .int .i64 x15.label]]⟩])
theorem e61_3 (a1 : Int) (a2 : Int) (a0 : (List Arc)) (p1 : Int) (s13 : Int) (x15 : Arc) (o : Bool) (h : m61_3 a1 a2 x15 = some o) : evCL T 0 k61_3 (frOf 28 (upd (upd (upd (upd (upd (upd anyF 1 (.int .i64 a1)) 2 (.int .i64 a2)) 8 (.ptr 0 0 0)) 9 (.ts .imm 3 (a0.map encArc))) 10 (.int .i64 p1)) 11 (.int .i64 s13))) [some ⟨.box, 3, [[.int .i64 x15.from_, .int .i64 x15.to, .int .i64 x15.label]]⟩] = some (X61_3 a1 a2 a0 p1 s13 x15 o) := by
  unfold m61_3 at h
  try simp -implicitDefEqProofs only [go_sem, Nat.reduceLT, Nat.reduceAdd, Nat.reduceSub, Nat.reduceMul, Nat.reduceEqDiff, Nat.reduceBEq, Nat.reduceLeDiff, Int.reduceToNat, Int.reduceLT, Int.reduceLE, Int.reduceEq, reduceCtorEq, ↓reduceIte, X61_3, k61_3]
  cases b20 : (eqI x15.from_ a1 : Bool)
  · replace h := br_f b20 h
    cases h
    simp -implicitDefEqProofs only [go_sem, Nat.reduceLT, Nat.reduceAdd, Nat.reduceSub, Nat.reduceMul, Nat.reduceEqDiff, Nat.reduceBEq, Nat.reduceLeDiff, Int.reduceToNat, Int.reduceLT, Int.reduceLE, Int.reduceEq, reduceCtorEq, ↓reduceIte, X61_3, k61_3, b20]
  · replace h := br_t b20 h
    cases h
    simp -implicitDefEqProofs only [go_sem, Nat.reduceLT, Nat.reduceAdd, Nat.reduceSub, Nat.reduceMul, Nat.reduceEqDiff, Nat.reduceBEq, Nat.reduceLeDiff, Int.reduceToNat, Int.reduceLT, Int.reduceLE, Int.reduceEq, reduceCtorEq, ↓reduceIte, X61_3, k61_3, b20]
noncomputable def X61_1 (a1 : Int) (a2 : Int) (a0 : (List Arc)) (p1 : Int) (o : (Unit ⊕ Int)) : Ex × Fr × St :=
  match o with
  | .inl o => (.exit 0, frOf 28 (anyF), [])
  | .inr o => (.ret, frOf 28 (upd anyF 6 (.int .i64 o)), [])
noncomputable def E61_1 (a1 : Int) (a2 : Int) (a0 : (List Arc)) (p1 : Int) (s : Int) : Fr × St := (frOf 28 (upd (upd (upd (upd (upd anyF 1 (.int .i64 a1)) 2 (.int .i64 a2)) 9 (.ts .imm 3 (a0.map encArc))) 10 (.int .i64 p1)) 11 (.int .i64 s)), [])
theorem b61_1 (a1 : Int) (a2 : Int) (a0 : (List Arc)) (p1 : Int) (s : Int) (o : Ctl Int (Unit ⊕ Int)) (h : m61_1b a1 a2 a0 p1 s = some o) : evCL T 0 k61_1b (E61_1 a1 a2 a0 p1 s).1 (E61_1 a1 a2 a0 p1 s).2 = some (ctlX (E61_1 a1 a2 a0 p1) (X61_1 a1 a2 a0 p1) o) := by
  unfold m61_1b at h
  revert h
  generalize s = s13
  intro h
  try simp -implicitDefEqProofs only [go_sem, Nat.reduceLT, Nat.reduceAdd, Nat.reduceSub, Nat.reduceMul, Nat.reduceEqDiff, Nat.reduceBEq, Nat.reduceLeDiff, Int.reduceToNat, Int.reduceLT, Int.reduceLE, Int.reduceEq, reduceCtorEq, ↓reduceIte, E61_1, X61_1, k61_1b]
  cases b14 : (ltI s13 p1 : Bool)
  · replace h := br_f b14 h
    cases h
    simp -implicitDefEqProofs only [go_sem, Nat.reduceLT, Nat.reduceAdd, Nat.reduceSub, Nat.reduceMul, Nat.reduceEqDiff, Nat.reduceBEq, Nat.reduceLeDiff, Int.reduceToNat, Int.reduceLT, Int.reduceLE, Int.reduceEq, reduceCtorEq, ↓reduceIte, E61_1, X61_1, k61_1b, b14]
  · replace h := br_t b14 h
    obtain ⟨x15, q16, h⟩ := bnd_some h
    obtain ⟨g17, g18, g19⟩ := idx_row encArc q16
    try simp -implicitDefEqProofs only [go_sem, Nat.reduceLT, Nat.reduceAdd, Nat.reduceSub, Nat.reduceMul, Nat.reduceEqDiff, Nat.reduceBEq, Nat.reduceLeDiff, Int.reduceToNat, Int.reduceLT, Int.reduceLE, Int.reduceEq, reduceCtorEq, ↓reduceIte] at g18
    try simp -implicitDefEqProofs only [go_sem, Nat.reduceLT, Nat.reduceAdd, Nat.reduceSub, Nat.reduceMul, Nat.reduceEqDiff, Nat.reduceBEq, Nat.reduceLeDiff, Int.reduceToNat, Int.reduceLT, Int.reduceLE, Int.reduceEq, reduceCtorEq, ↓reduceIte] at g19
    obtain ⟨v23, q21, h⟩ := bnd_some h
    have w22 := e61_3 a1 a2 a0 p1 s13 x15 v23 q21
    simp only [X61_3] at w22
    try simp -implicitDefEqProofs only [go_sem, Nat.reduceLT, Nat.reduceAdd, Nat.reduceSub, Nat.reduceMul, Nat.reduceEqDiff, Nat.reduceBEq, Nat.reduceLeDiff, Int.reduceToNat, Int.reduceLT, Int.reduceLE, Int.reduceEq, reduceCtorEq, ↓reduceIte] at w22
    try simp -implicitDefEqProofs only [go_sem, Nat.reduceLT, Nat.reduceAdd, Nat.reduceSub, Nat.reduceMul, Nat.reduceEqDiff, Nat.reduceBEq, Nat.reduceLeDiff, Int.reduceToNat, Int.reduceLT, Int.reduceLE, Int.reduceEq, reduceCtorEq, ↓reduceIte, E61_1, X61_1, k61_1b, b14, g17, g18, g19, w22]
    cases b24 : (v23 : Bool)
    · replace h := br_f b24 h
      cases h
      simp -implicitDefEqProofs only [go_sem, Nat.reduceLT, Nat.reduceAdd, Nat.reduceSub, Nat.reduceMul, Nat.reduceEqDiff, Nat.reduceBEq, Nat.reduceLeDiff, Int.reduceToNat, Int.reduceLT, Int.reduceLE, Int.reduceEq, reduceCtorEq, ↓reduceIte, E61_1, X61_1, k61_1b, b14, g17, g18, g19, w22, b24]
    · replace h := br_t b24 h
      cases h
      simp -implicitDefEqProofs only [go_sem, Nat.reduceLT, Nat.reduceAdd, Nat.reduceSub, Nat.reduceMul, Nat.reduceEqDiff, Nat.reduceBEq, Nat.reduceLeDiff, Int.reduceToNat, Int.reduceLT, Int.reduceLE, Int.reduceEq, reduceCtorEq, ↓reduceIte, E61_1, X61_1, k61_1b, b14, g17, g18, g19, w22, b24]
theorem e61_1 (a1 : Int) (a2 : Int) (a0 : (List Arc)) (p1 : Int) (s : Int) (o : (Unit ⊕ Int)) (h : loopP (m61_1b a1 a2 a0 p1) s = some o) : evCL T 0 (.loop k61_1b) (E61_1 a1 a2 a0 p1 s).1 (E61_1 a1 a2 a0 p1 s).2 = some (X61_1 a1 a2 a0 p1 o) :=
  loop_walk (E := E61_1 a1 a2 a0 p1) (X := X61_1 a1 a2 a0 p1) (by intro b; rcases b with b | b <;> (simp only [X61_1]; nofun)) (b61_1 a1 a2 a0 p1) s o h
theorem e61 (a0 : (List Arc)) (a1 : Int) (a2 : Int) (r : Int) (h : m61 a0 a1 a2 = some r) : evFL T 61 [.ts .imm 3 (a0.map encArc), .int .i64 a1, .int .i64 a2] [] = some (.int .i64 r, []) := by
  unfold m61 at h
  rw [evFL_at fn61 (Nat.le_of_ble_eq_true rfl) rfl (.inr rfl) ⟨rfl, rfl⟩]
  try simp -implicitDefEqProofs only [go_sem, Nat.reduceLT, Nat.reduceAdd, Nat.reduceSub, Nat.reduceMul, Nat.reduceEqDiff, Nat.reduceBEq, Nat.reduceLeDiff, Int.reduceToNat, Int.reduceLT, Int.reduceLE, Int.reduceEq, reduceCtorEq, ↓reduceIte, i61, c61]
  obtain ⟨o, q25, h⟩ := bnd_some h
  rcases o with ⟨⟩ | v27
  · replace h := selS_l h
    have w26 := e61_1 a1 a2 a0 (↑a0.length : Int) 0 (.inl ()) q25
    simp only [E61_1, X61_1] at w26
    try simp -implicitDefEqProofs only [go_sem, Nat.reduceLT, Nat.reduceAdd, Nat.reduceSub, Nat.reduceMul, Nat.reduceEqDiff, Nat.reduceBEq, Nat.reduceLeDiff, Int.reduceToNat, Int.reduceLT, Int.reduceLE, Int.reduceEq, reduceCtorEq, ↓reduceIte] at w26
    cases h
    simp -implicitDefEqProofs only [go_sem, Nat.reduceLT, Nat.reduceAdd, Nat.reduceSub, Nat.reduceMul, Nat.reduceEqDiff, Nat.reduceBEq, Nat.reduceLeDiff, Int.reduceToNat, Int.reduceLT, Int.reduceLE, Int.reduceEq, reduceCtorEq, ↓reduceIte, i61, c61, w26]
  · replace h := selS_r h
    have w26 := e61_1 a1 a2 a0 (↑a0.length : Int) 0 (.inr v27) q25
    simp only [E61_1, X61_1] at w26
    try simp -implicitDefEqProofs only [go_sem, Nat.reduceLT, Nat.reduceAdd, Nat.reduceSub, Nat.reduceMul, Nat.reduceEqDiff, Nat.reduceBEq, Nat.reduceLeDiff, Int.reduceToNat, Int.reduceLT, Int.reduceLE, Int.reduceEq, reduceCtorEq, ↓reduceIte] at w26
    cases h
    simp -implicitDefEqProofs only [go_sem, Nat.reduceLT, Nat.reduceAdd, Nat.reduceSub, Nat.reduceMul, Nat.reduceEqDiff, Nat.reduceBEq, Nat.reduceLeDiff, Int.reduceToNat, Int.reduceLT, Int.reduceLE, Int.reduceEq, reduceCtorEq, ↓reduceIte, i61, c61, w26]
-- f37 spec.BestTo
theorem call37 (args : List AV) (S : St) : evCall T (evFL T) 37 args S = lendC (evFL T 37) S (lendAll S [[0, 1], [3], [0]] args) := evCall0 fn37 rfl rfl rfl args S
theorem callz37 (args : List AV) (S : St) : evCallFz T (evFL T) 37 args S = lendZ (evFL T 37) S [[1], [0]] (lendAll S [[0, 1], [3], [0]] args) := evCallFz0 fn37 rfl rfl rfl args S
theorem calls37 (args : List AV) (S : St) : evCall (T.at true) (evFL T) 37 args S = lendC (evFL T 37) S (lendAll S [[0, 1], [3], [0]] args) := evCall0 fns37 rfl rfl rfl args S
theorem callsz37 (args : List AV) (S : St) : evCallFz (T.at true) (evFL T) 37 args S = lendZ (evFL T 37) S [[1], [0]] (lendAll S [[0, 1], [3], [0]] args) := evCallFz0 fns37 rfl rfl rfl args S
attribute [go_sem] call37 callz37 calls37 callsz37
noncomputable def X37_1 (a1 : (List Arc)) (a2 : Int) (a0 : Algebra) (o : Bool) : Ex × Fr × St :=
  (.normal, frOf 114 (upd (upd (upd (upd anyF 1 (.ts .imm 3 (a1.map encArc))) 2 (.int .i64 a2)) 3 (.ptr 0 0 0)) 23 (.bool o)), [some ⟨.box, 2, [[.int .i64 a0.weights, .ts .imm 1 (a0.apply.map (encLInt .imm))]]⟩])
theorem e37_1 (a1 : (List Arc)) (a2 : Int) (a0 : Algebra) (o : Bool) (h : m37_1 a1 a2 a0 = some o) : evCL T 0 k37_1 (frOf 114 (upd (upd (upd anyF 1 (.ts .imm 3 (a1.map encArc))) 2 (.int .i64 a2)) 3 (.ptr 0 0 0))) [some ⟨.box, 2, [[.int .i64 a0.weights, .ts .imm 1 (a0.apply.map (encLInt .imm))]]⟩] = some (X37_1 a1 a2 a0 o) := by
  unfold m37_1 at h
  obtain ⟨r3, q1, h⟩ := bnd_some h
  have w2 := e59 a0 a1 r3 q1
  try simp -implicitDefEqProofs only [go_sem, Nat.reduceLT, Nat.reduceAdd, Nat.reduceSub, Nat.reduceMul, Nat.reduceEqDiff, Nat.reduceBEq, Nat.reduceLeDiff, Int.reduceToNat, Int.reduceLT, Int.reduceLE, Int.reduceEq, reduceCtorEq, ↓reduceIte] at w2
  try simp -implicitDefEqProofs only [go_sem, Nat.reduceLT, Nat.reduceAdd, Nat.reduceSub, Nat.reduceMul, Nat.reduceEqDiff, Nat.reduceBEq, Nat.reduceLeDiff, Int.reduceToNat, Int.reduceLT, Int.reduceLE, Int.reduceEq, reduceCtorEq, ↓reduceIte, X37_1, k37_1, w2]
  cases b4 : (r3 : Bool)
  · replace h := br_f b4 h
    cases h
    simp -implicitDefEqProofs only [go_sem, Nat.reduceLT, Nat.reduceAdd, Nat.reduceSub, Nat.reduceMul, Nat.reduceEqDiff, Nat.reduceBEq, Nat.reduceLeDiff, Int.reduceToNat, Int.reduceLT, Int.reduceLE, Int.reduceEq, reduceCtorEq, ↓reduceIte, X37_1, k37_1, w2, b4]
  · replace h := br_t b4 h
    obtain ⟨r7, q5, h⟩ := bnd_some h
    have w6 := e45 a2 0 5 r7 q5
    try simp -implicitDefEqProofs only [go_sem, Nat.reduceLT, Nat.reduceAdd, Nat.reduceSub, Nat.reduceMul, Nat.reduceEqDiff, Nat.reduceBEq, Nat.reduceLeDiff, Int.reduceToNat, Int.reduceLT, Int.reduceLE, Int.reduceEq, reduceCtorEq, ↓reduceIte] at w6
    cases h
    simp -implicitDefEqProofs only [go_sem, Nat.reduceLT, Nat.reduceAdd, Nat.reduceSub, Nat.reduceMul, Nat.reduceEqDiff, Nat.reduceBEq, Nat.reduceLeDiff, Int.reduceToNat, Int.reduceLT, Int.reduceLE, Int.reduceEq, reduceCtorEq, ↓reduceIte, X37_1, k37_1, w2, b4, w6]
noncomputable def X37_16 (a1 : (List Arc)) (s207 : Int) (s237 : Int) (s238 : Int) (p211 : Int) (a0 : Algebra) (s208 : List Int) (s209 : List Bool) (o : Bool) : Ex × Fr × St :=
  (.normal, frOf 114 (upd (upd (upd (upd (upd (upd (upd (upd (upd (upd anyF 1 (.ts .imm 3 (a1.map encArc))) 3 (.ptr 0 0 0)) 8 (.sl 1 0 s208.length)) 9 (.sl 2 0 s209.length)) 10 (.int .i64 s207)) 11 (.int .i64 s237)) 12 (.int .i64 s238)) 35 (.int .i64 p211)) 36 (.int .i64 s238)) 58 (.bool o)), [some ⟨.box, 2, [[.int .i64 a0.weights, .ts .imm 1 (a0.apply.map (encLInt .imm))]]⟩, some ⟨.arr, 1, s208.map encInt⟩, some ⟨.arr, 1, s209.map encBool⟩])
theorem e37_16 (a1 : (List Arc)) (s207 : Int) (s237 : Int) (s238 : Int) (p211 : Int) (a0 : Algebra) (s208 : List Int) (s209 : List Bool) (o : Bool) (h : m37_16 s237 s238 s208 s209 = some o) : evCL T 0 k37_16 (frOf 114 (upd (upd (upd (upd (upd (upd (upd (upd (upd anyF 1 (.ts .imm 3 (a1.map encArc))) 3 (.ptr 0 0 0)) 8 (.sl 1 0 s208.length)) 9 (.sl 2 0 s209.length)) 10 (.int .i64 s207)) 11 (.int .i64 s237)) 12 (.int .i64 s238)) 35 (.int .i64 p211)) 36 (.int .i64 s238))) [some ⟨.box, 2, [[.int .i64 a0.weights, .ts .imm 1 (a0.apply.map (encLInt .imm))]]⟩, some ⟨.arr, 1, s208.map encInt⟩, some ⟨.arr, 1, s209.map encBool⟩] = some (X37_16 a1 s207 s237 s238 p211 a0 s208 s209 o) := by
  unfold m37_16 at h
  obtain ⟨x240, q241, h⟩ := bnd_some h
  obtain ⟨g242, g243, g244⟩ := idx_row encBool q241
  try simp -implicitDefEqProofs only [go_sem, Nat.reduceLT, Nat.reduceAdd, Nat.reduceSub, Nat.reduceMul, Nat.reduceEqDiff, Nat.reduceBEq, Nat.reduceLeDiff, Int.reduceToNat, Int.reduceLT, Int.reduceLE, Int.reduceEq, reduceCtorEq, ↓reduceIte] at g243
  try simp -implicitDefEqProofs only [go_sem, Nat.reduceLT, Nat.reduceAdd, Nat.reduceSub, Nat.reduceMul, Nat.reduceEqDiff, Nat.reduceBEq, Nat.reduceLeDiff, Int.reduceToNat, Int.reduceLT, Int.reduceLE, Int.reduceEq, reduceCtorEq, ↓reduceIte] at g244
  try simp -implicitDefEqProofs only [go_sem, Nat.reduceLT, Nat.reduceAdd, Nat.reduceSub, Nat.reduceMul, Nat.reduceEqDiff, Nat.reduceBEq, Nat.reduceLeDiff, Int.reduceToNat, Int.reduceLT, Int.reduceLE, Int.reduceEq, reduceCtorEq, ↓reduceIte, X37_16, k37_16, g242, g243, g244]
  cases b245 : (x240 : Bool)
  · replace h := br_f b245 h
    try simp -implicitDefEqProofs only [go_sem, Nat.reduceLT, Nat.reduceAdd, Nat.reduceSub, Nat.reduceMul, Nat.reduceEqDiff, Nat.reduceBEq, Nat.reduceLeDiff, Int.reduceToNat, Int.reduceLT, Int.reduceLE, Int.reduceEq, reduceCtorEq, ↓reduceIte, X37_16, k37_16, g242, g243, g244, b245]
    cases b246 : (ltI s237 0 : Bool)
    · replace h := br_f b246 h
      obtain ⟨x247, q248, h⟩ := bnd_some h
      obtain ⟨g249, g250, g251⟩ := idx_row encInt q248
      try simp -implicitDefEqProofs only [go_sem, Nat.reduceLT, Nat.reduceAdd, Nat.reduceSub, Nat.reduceMul, Nat.reduceEqDiff, Nat.reduceBEq, Nat.reduceLeDiff, Int.reduceToNat, Int.reduceLT, Int.reduceLE, Int.reduceEq, reduceCtorEq, ↓reduceIte] at g250
      try simp -implicitDefEqProofs only [go_sem, Nat.reduceLT, Nat.reduceAdd, Nat.reduceSub, Nat.reduceMul, Nat.reduceEqDiff, Nat.reduceBEq, Nat.reduceLeDiff, Int.reduceToNat, Int.reduceLT, Int.reduceLE, Int.reduceEq, reduceCtorEq, ↓reduceIte] at g251
      obtain ⟨x252, q253, h⟩ := bnd_some h
      obtain ⟨g254, g255, g256⟩ := idx_row encInt q253
      try simp -implicitDefEqProofs only [go_sem, Nat.reduceLT, Nat.reduceAdd, Nat.reduceSub, Nat.reduceMul, Nat.reduceEqDiff, Nat.reduceBEq, Nat.reduceLeDiff, Int.reduceToNat, Int.reduceLT, Int.reduceLE, Int.reduceEq, reduceCtorEq, ↓reduceIte] at g255
      try simp -implicitDefEqProofs only [go_sem, Nat.reduceLT, Nat.reduceAdd, Nat.reduceSub, Nat.reduceMul, Nat.reduceEqDiff, Nat.reduceBEq, Nat.reduceLeDiff, Int.reduceToNat, Int.reduceLT, Int.reduceLE, Int.reduceEq, reduceCtorEq, ↓reduceIte] at g256
      cases h
      simp -implicitDefEqProofs only [go_sem, Nat.reduceLT, Nat.reduceAdd, Nat.reduceSub, Nat.reduceMul, Nat.reduceEqDiff, Nat.reduceBEq, Nat.reduceLeDiff, Int.reduceToNat, Int.reduceLT, Int.reduceLE, Int.reduceEq, reduceCtorEq, ↓reduceIte, X37_16, k37_16, g242, g243, g244, b245, b246, g249, g250, g251, g254, g255, g256]
    · replace h := br_t b246 h
      cases h
      simp -implicitDefEqProofs only [go_sem, Nat.reduceLT, Nat.reduceAdd, Nat.reduceSub, Nat.reduceMul, Nat.reduceEqDiff, Nat.reduceBEq, Nat.reduceLeDiff, Int.reduceToNat, Int.reduceLT, Int.reduceLE, Int.reduceEq, reduceCtorEq, ↓reduceIte, X37_16, k37_16, g242, g243, g244, b245, b246]
  · replace h := br_t b245 h
    cases h
    simp -implicitDefEqProofs only [go_sem, Nat.reduceLT, Nat.reduceAdd, Nat.reduceSub, Nat.reduceMul, Nat.reduceEqDiff, Nat.reduceBEq, Nat.reduceLeDiff, Int.reduceToNat, Int.reduceLT, Int.reduceLE, Int.reduceEq, reduceCtorEq, ↓reduceIte, X37_16, k37_16, g242, g243, g244, b245]
noncomputable def X37_17 (a1 : (List Arc)) (s207 : Int) (s237 : Int) (s238 : Int) (p211 : Int) (v259 : Bool) (a0 : Algebra) (s208 : List Int) (s209 : List Bool) (o : Int) : Ex × Fr × St :=
  (.normal, frOf 114 (upd (upd (upd (upd (upd (upd (upd (upd anyF 1 (.ts .imm 3 (a1.map encArc))) 3 (.ptr 0 0 0)) 8 (.sl 1 0 s208.length)) 9 (.sl 2 0 s209.length)) 10 (.int .i64 s207)) 11 (.int .i64 o)) 35 (.int .i64 p211)) 36 (.int .i64 s238)), [some ⟨.box, 2, [[.int .i64 a0.weights, .ts .imm 1 (a0.apply.map (encLInt .imm))]]⟩, some ⟨.arr, 1, s208.map encInt⟩, some ⟨.arr, 1, s209.map encBool⟩])
theorem e37_17 (a1 : (List Arc)) (s207 : Int) (s237 : Int) (s238 : Int) (p211 : Int) (v259 : Bool) (a0 : Algebra) (s208 : List Int) (s209 : List Bool) (o : Int) (h : m37_17 s237 s238 v259 = some o) : evCL T 0 k37_17 (frOf 114 (upd (upd (upd (upd (upd (upd (upd (upd (upd (upd anyF 1 (.ts .imm 3 (a1.map encArc))) 3 (.ptr 0 0 0)) 8 (.sl 1 0 s208.length)) 9 (.sl 2 0 s209.length)) 10 (.int .i64 s207)) 11 (.int .i64 s237)) 12 (.int .i64 s238)) 35 (.int .i64 p211)) 36 (.int .i64 s238)) 58 (.bool v259))) [some ⟨.box, 2, [[.int .i64 a0.weights, .ts .imm 1 (a0.apply.map (encLInt .imm))]]⟩, some ⟨.arr, 1, s208.map encInt⟩, some ⟨.arr, 1, s209.map encBool⟩] = some (X37_17 a1 s207 s237 s238 p211 v259 a0 s208 s209 o) := by
  unfold m37_17 at h
  try simp -implicitDefEqProofs only [go_sem, Nat.reduceLT, Nat.reduceAdd, Nat.reduceSub, Nat.reduceMul, Nat.reduceEqDiff, Nat.reduceBEq, Nat.reduceLeDiff, Int.reduceToNat, Int.reduceLT, Int.reduceLE, Int.reduceEq, reduceCtorEq, ↓reduceIte, X37_17, k37_17]
  cases b260 : (v259 : Bool)
  · replace h := br_f b260 h
    cases h
    simp -implicitDefEqProofs only [go_sem, Nat.reduceLT, Nat.reduceAdd, Nat.reduceSub, Nat.reduceMul, Nat.reduceEqDiff, Nat.reduceBEq, Nat.reduceLeDiff, Int.reduceToNat, Int.reduceLT, Int.reduceLE, Int.reduceEq, reduceCtorEq, ↓reduceIte, X37_17, k37_17, b260]
  · replace h := br_t b260 h
    cases h
    simp -implicitDefEqProofs only [go_sem, Nat.reduceLT, Nat.reduceAdd, Nat.reduceSub, Nat.reduceMul, Nat.reduceEqDiff, Nat.reduceBEq, Nat.reduceLeDiff, Int.reduceToNat, Int.reduceLT, Int.reduceLE, Int.reduceEq, reduceCtorEq, ↓reduceIte, X37_17, k37_17, b260]
noncomputable def X37_13 (a1 : (List Arc)) (s207 : Int) (p211 : Int) (a0 : Algebra) (s208 : List Int) (s209 : List Bool) (o : Int) : Ex × Fr × St :=
  (.exit 2, frOf 114 (upd (upd (upd (upd (upd (upd anyF 1 (.ts .imm 3 (a1.map encArc))) 3 (.ptr 0 0 0)) 8 (.sl 1 0 s208.length)) 9 (.sl 2 0 s209.length)) 10 (.int .i64 s207)) 11 (.int .i64 o)), [some ⟨.box, 2, [[.int .i64 a0.weights, .ts .imm 1 (a0.apply.map (encLInt .imm))]]⟩, some ⟨.arr, 1, s208.map encInt⟩, some ⟨.arr, 1, s209.map encBool⟩])
noncomputable def E37_13 (a1 : (List Arc)) (s207 : Int) (p211 : Int) (a0 : Algebra) (s208 : List Int) (s209 : List Bool) (s : (Int × Int)) : Fr × St := (frOf 114 (upd (upd (upd (upd (upd (upd (upd (upd anyF 1 (.ts .imm 3 (a1.map encArc))) 3 (.ptr 0 0 0)) 8 (.sl 1 0 s208.length)) 9 (.sl 2 0 s209.length)) 10 (.int .i64 s207)) 11 (.int .i64 s.1)) 35 (.int .i64 p211)) 36 (.int .i64 s.2)), [some ⟨.box, 2, [[.int .i64 a0.weights, .ts .imm 1 (a0.apply.map (encLInt .imm))]]⟩, some ⟨.arr, 1, s208.map encInt⟩, some ⟨.arr, 1, s209.map encBool⟩])
theorem b37_13 (a1 : (List Arc)) (s207 : Int) (p211 : Int) (a0 : Algebra) (s208 : List Int) (s209 : List Bool) (s : (Int × Int)) (o : Ctl (Int × Int) Int) (h : m37_13b p211 s208 s209 s = some o) : evCL T 0 k37_13b (E37_13 a1 s207 p211 a0 s208 s209 s).1 (E37_13 a1 s207 p211 a0 s208 s209 s).2 = some (ctlX (E37_13 a1 s207 p211 a0 s208 s209) (X37_13 a1 s207 p211 a0 s208 s209) o) := by
  unfold m37_13b at h
  obtain ⟨s237, s238⟩ := s
  replace h := sel2_some h
  try simp -implicitDefEqProofs only [go_sem, Nat.reduceLT, Nat.reduceAdd, Nat.reduceSub, Nat.reduceMul, Nat.reduceEqDiff, Nat.reduceBEq, Nat.reduceLeDiff, Int.reduceToNat, Int.reduceLT, Int.reduceLE, Int.reduceEq, reduceCtorEq, ↓reduceIte, E37_13, X37_13, k37_13b]
  cases b239 : (ltI s238 p211 : Bool)
  · replace h := br_f b239 h
    cases h
    simp -implicitDefEqProofs only [go_sem, Nat.reduceLT, Nat.reduceAdd, Nat.reduceSub, Nat.reduceMul, Nat.reduceEqDiff, Nat.reduceBEq, Nat.reduceLeDiff, Int.reduceToNat, Int.reduceLT, Int.reduceLE, Int.reduceEq, reduceCtorEq, ↓reduceIte, E37_13, X37_13, k37_13b, b239]
  · replace h := br_t b239 h
    obtain ⟨v259, q257, h⟩ := bnd_some h
    have w258 := e37_16 a1 s207 s237 s238 p211 a0 s208 s209 v259 q257
    simp only [X37_16] at w258
    try simp -implicitDefEqProofs only [go_sem, Nat.reduceLT, Nat.reduceAdd, Nat.reduceSub, Nat.reduceMul, Nat.reduceEqDiff, Nat.reduceBEq, Nat.reduceLeDiff, Int.reduceToNat, Int.reduceLT, Int.reduceLE, Int.reduceEq, reduceCtorEq, ↓reduceIte] at w258
    obtain ⟨v263, q261, h⟩ := bnd_some h
    have w262 := e37_17 a1 s207 s237 s238 p211 v259 a0 s208 s209 v263 q261
    simp only [X37_17] at w262
    try simp -implicitDefEqProofs only [go_sem, Nat.reduceLT, Nat.reduceAdd, Nat.reduceSub, Nat.reduceMul, Nat.reduceEqDiff, Nat.reduceBEq, Nat.reduceLeDiff, Int.reduceToNat, Int.reduceLT, Int.reduceLE, Int.reduceEq, reduceCtorEq, ↓reduceIte] at w262
    cases h
    simp -implicitDefEqProofs only [go_sem, Nat.reduceLT, Nat.reduceAdd, Nat.reduceSub, Nat.reduceMul, Nat.reduceEqDiff, Nat.reduceBEq, Nat.reduceLeDiff, Int.reduceToNat, Int.reduceLT, Int.reduceLE, Int.reduceEq, reduceCtorEq, ↓reduceIte, E37_13, X37_13, k37_13b, b239, w258, w262]
theorem e37_13 (a1 : (List Arc)) (s207 : Int) (p211 : Int) (a0 : Algebra) (s208 : List Int) (s209 : List Bool) (s : (Int × Int)) (o : Int) (h : loopP (m37_13b p211 s208 s209) s = some o) : evCL T 0 (.loop k37_13b) (E37_13 a1 s207 p211 a0 s208 s209 s).1 (E37_13 a1 s207 p211 a0 s208 s209 s).2 = some (X37_13 a1 s207 p211 a0 s208 s209 o) :=
  loop_walk (E := E37_13 a1 s207 p211 a0 s208 s209) (X := X37_13 a1 s207 p211 a0 s208 s209) (by intro b; (simp only [X37_13]; nofun)) (b37_13 a1 s207 p211 a0 s208 s209) s o h
noncomputable def X37_21 (a1 : (List Arc)) (s207 : Int) (v266 : Int) (s331 : Int) (r336 : Int) (a0 : Algebra) (s332 : List Int) (p272 : List Bool) (o : Bool) : Ex × Fr × St :=
  (.normal, frOf 114 (upd (upd (upd (upd (upd (upd (upd (upd (upd anyF 1 (.ts .imm 3 (a1.map encArc))) 3 (.ptr 0 0 0)) 8 (.sl 1 0 s332.length)) 9 (.sl 2 0 p272.length)) 10 (.int .i64 s207)) 11 (.int .i64 v266)) 13 (.int .i64 s331)) 14 (.int .i64 r336)) 98 (.bool o)), [some ⟨.box, 2, [[.int .i64 a0.weights, .ts .imm 1 (a0.apply.map (encLInt .imm))]]⟩, some ⟨.arr, 1, s332.map encInt⟩, some ⟨.arr, 1, p272.map encBool⟩])
theorem e37_21 (a1 : (List Arc)) (s207 : Int) (v266 : Int) (s331 : Int) (r336 : Int) (a0 : Algebra) (s332 : List Int) (p272 : List Bool) (o : Bool) (h : m37_21 v266 s331 r336 a0 s332 p272 = some o) : evCL T 0 k37_21 (frOf 114 (upd (upd (upd (upd (upd (upd (upd (upd anyF 1 (.ts .imm 3 (a1.map encArc))) 3 (.ptr 0 0 0)) 8 (.sl 1 0 s332.length)) 9 (.sl 2 0 p272.length)) 10 (.int .i64 s207)) 11 (.int .i64 v266)) 13 (.int .i64 s331)) 14 (.int .i64 r336))) [some ⟨.box, 2, [[.int .i64 a0.weights, .ts .imm 1 (a0.apply.map (encLInt .imm))]]⟩, some ⟨.arr, 1, s332.map encInt⟩, some ⟨.arr, 1, p272.map encBool⟩] = some (X37_21 a1 s207 v266 s331 r336 a0 s332 p272 o) := by
  unfold m37_21 at h
  try simp -implicitDefEqProofs only [go_sem, Nat.reduceLT, Nat.reduceAdd, Nat.reduceSub, Nat.reduceMul, Nat.reduceEqDiff, Nat.reduceBEq, Nat.reduceLeDiff, Int.reduceToNat, Int.reduceLT, Int.reduceLE, Int.reduceEq, reduceCtorEq, ↓reduceIte, X37_21, k37_21]
  cases b337 : (leI 0 r336 : Bool)
  · replace h := br_f b337 h
    cases h
    simp -implicitDefEqProofs only [go_sem, Nat.reduceLT, Nat.reduceAdd, Nat.reduceSub, Nat.reduceMul, Nat.reduceEqDiff, Nat.reduceBEq, Nat.reduceLeDiff, Int.reduceToNat, Int.reduceLT, Int.reduceLE, Int.reduceEq, reduceCtorEq, ↓reduceIte, X37_21, k37_21, b337]
  · replace h := br_t b337 h
    obtain ⟨x338, q339, h⟩ := bnd_some h
    obtain ⟨g340, g341, g342⟩ := idx_row encBool q339
    try simp -implicitDefEqProofs only [go_sem, Nat.reduceLT, Nat.reduceAdd, Nat.reduceSub, Nat.reduceMul, Nat.reduceEqDiff, Nat.reduceBEq, Nat.reduceLeDiff, Int.reduceToNat, Int.reduceLT, Int.reduceLE, Int.reduceEq, reduceCtorEq, ↓reduceIte] at g341
    try simp -implicitDefEqProofs only [go_sem, Nat.reduceLT, Nat.reduceAdd, Nat.reduceSub, Nat.reduceMul, Nat.reduceEqDiff, Nat.reduceBEq, Nat.reduceLeDiff, Int.reduceToNat, Int.reduceLT, Int.reduceLE, Int.reduceEq, reduceCtorEq, ↓reduceIte] at g342
    try simp -implicitDefEqProofs only [go_sem, Nat.reduceLT, Nat.reduceAdd, Nat.reduceSub, Nat.reduceMul, Nat.reduceEqDiff, Nat.reduceBEq, Nat.reduceLeDiff, Int.reduceToNat, Int.reduceLT, Int.reduceLE, Int.reduceEq, reduceCtorEq, ↓reduceIte, X37_21, k37_21, b337, g340, g341, g342]
    cases b343 : (x338 : Bool)
    · replace h := br_f b343 h
      obtain ⟨x344, q345, h⟩ := bnd_some h
      obtain ⟨g346, g347, g348⟩ := idx_row (encLInt .imm) q345
      try simp -implicitDefEqProofs only [go_sem, Nat.reduceLT, Nat.reduceAdd, Nat.reduceSub, Nat.reduceMul, Nat.reduceEqDiff, Nat.reduceBEq, Nat.reduceLeDiff, Int.reduceToNat, Int.reduceLT, Int.reduceLE, Int.reduceEq, reduceCtorEq, ↓reduceIte] at g347
      try simp -implicitDefEqProofs only [go_sem, Nat.reduceLT, Nat.reduceAdd, Nat.reduceSub, Nat.reduceMul, Nat.reduceEqDiff, Nat.reduceBEq, Nat.reduceLeDiff, Int.reduceToNat, Int.reduceLT, Int.reduceLE, Int.reduceEq, reduceCtorEq, ↓reduceIte] at g348
      obtain ⟨x349, q350, h⟩ := bnd_some h
      obtain ⟨g351, g352, g353⟩ := idx_row encInt q350
      try simp -implicitDefEqProofs only [go_sem, Nat.reduceLT, Nat.reduceAdd, Nat.reduceSub, Nat.reduceMul, Nat.reduceEqDiff, Nat.reduceBEq, Nat.reduceLeDiff, Int.reduceToNat, Int.reduceLT, Int.reduceLE, Int.reduceEq, reduceCtorEq, ↓reduceIte] at g352
      try simp -implicitDefEqProofs only [go_sem, Nat.reduceLT, Nat.reduceAdd, Nat.reduceSub, Nat.reduceMul, Nat.reduceEqDiff, Nat.reduceBEq, Nat.reduceLeDiff, Int.reduceToNat, Int.reduceLT, Int.reduceLE, Int.reduceEq, reduceCtorEq, ↓reduceIte] at g353
      obtain ⟨x354, q355, h⟩ := bnd_some h
      obtain ⟨g356, g357, g358⟩ := idx_row encInt q355
      try simp -implicitDefEqProofs only [go_sem, Nat.reduceLT, Nat.reduceAdd, Nat.reduceSub, Nat.reduceMul, Nat.reduceEqDiff, Nat.reduceBEq, Nat.reduceLeDiff, Int.reduceToNat, Int.reduceLT, Int.reduceLE, Int.reduceEq, reduceCtorEq, ↓reduceIte] at g357
      try simp -implicitDefEqProofs only [go_sem, Nat.reduceLT, Nat.reduceAdd, Nat.reduceSub, Nat.reduceMul, Nat.reduceEqDiff, Nat.reduceBEq, Nat.reduceLeDiff, Int.reduceToNat, Int.reduceLT, Int.reduceLE, Int.reduceEq, reduceCtorEq, ↓reduceIte] at g358
      obtain ⟨x359, q360, h⟩ := bnd_some h
      obtain ⟨g361, g362, g363⟩ := idx_row encInt q360
      try simp -implicitDefEqProofs only [go_sem, Nat.reduceLT, Nat.reduceAdd, Nat.reduceSub, Nat.reduceMul, Nat.reduceEqDiff, Nat.reduceBEq, Nat.reduceLeDiff, Int.reduceToNat, Int.reduceLT, Int.reduceLE, Int.reduceEq, reduceCtorEq, ↓reduceIte] at g362
      try simp -implicitDefEqProofs only [go_sem, Nat.reduceLT, Nat.reduceAdd, Nat.reduceSub, Nat.reduceMul, Nat.reduceEqDiff, Nat.reduceBEq, Nat.reduceLeDiff, Int.reduceToNat, Int.reduceLT, Int.reduceLE, Int.reduceEq, reduceCtorEq, ↓reduceIte] at g363
      cases h
      simp -implicitDefEqProofs only [go_sem, Nat.reduceLT, Nat.reduceAdd, Nat.reduceSub, Nat.reduceMul, Nat.reduceEqDiff, Nat.reduceBEq, Nat.reduceLeDiff, Int.reduceToNat, Int.reduceLT, Int.reduceLE, Int.reduceEq, reduceCtorEq, ↓reduceIte, X37_21, k37_21, b337, g340, g341, g342, b343, g346, g347, g348, g351, g352, g353, g356, g357, g358, g361, g362, g363]
    · replace h := br_t b343 h
      cases h
      simp -implicitDefEqProofs only [go_sem, Nat.reduceLT, Nat.reduceAdd, Nat.reduceSub, Nat.reduceMul, Nat.reduceEqDiff, Nat.reduceBEq, Nat.reduceLeDiff, Int.reduceToNat, Int.reduceLT, Int.reduceLE, Int.reduceEq, reduceCtorEq, ↓reduceIte, X37_21, k37_21, b337, g340, g341, g342, b343]
noncomputable def X37_22 (a1 : (List Arc)) (s207 : Int) (v266 : Int) (s331 : Int) (r336 : Int) (v366 : Bool) (a0 : Algebra) (s332 : List Int) (p272 : List Bool) (o : (List Int)) : Ex × Fr × St :=
  (.normal, frOf 114 (upd (upd (upd (upd (upd (upd (upd anyF 1 (.ts .imm 3 (a1.map encArc))) 3 (.ptr 0 0 0)) 8 (.sl 1 0 o.length)) 9 (.sl 2 0 p272.length)) 10 (.int .i64 s207)) 11 (.int .i64 v266)) 13 (.int .i64 s331)), [some ⟨.box, 2, [[.int .i64 a0.weights, .ts .imm 1 (a0.apply.map (encLInt .imm))]]⟩, some ⟨.arr, 1, o.map encInt⟩, some ⟨.arr, 1, p272.map encBool⟩])
theorem e37_22 (a1 : (List Arc)) (s207 : Int) (v266 : Int) (s331 : Int) (r336 : Int) (v366 : Bool) (a0 : Algebra) (s332 : List Int) (p272 : List Bool) (o : (List Int)) (h : m37_22 v266 s331 r336 v366 a0 s332 = some o) : evCL T 0 k37_22 (frOf 114 (upd (upd (upd (upd (upd (upd (upd (upd (upd anyF 1 (.ts .imm 3 (a1.map encArc))) 3 (.ptr 0 0 0)) 8 (.sl 1 0 s332.length)) 9 (.sl 2 0 p272.length)) 10 (.int .i64 s207)) 11 (.int .i64 v266)) 13 (.int .i64 s331)) 14 (.int .i64 r336)) 98 (.bool v366))) [some ⟨.box, 2, [[.int .i64 a0.weights, .ts .imm 1 (a0.apply.map (encLInt .imm))]]⟩, some ⟨.arr, 1, s332.map encInt⟩, some ⟨.arr, 1, p272.map encBool⟩] = some (X37_22 a1 s207 v266 s331 r336 v366 a0 s332 p272 o) := by
  unfold m37_22 at h
  try simp -implicitDefEqProofs only [go_sem, Nat.reduceLT, Nat.reduceAdd, Nat.reduceSub, Nat.reduceMul, Nat.reduceEqDiff, Nat.reduceBEq, Nat.reduceLeDiff, Int.reduceToNat, Int.reduceLT, Int.reduceLE, Int.reduceEq, reduceCtorEq, ↓reduceIte, X37_22, k37_22]
  cases b367 : (v366 : Bool)
  · replace h := br_f b367 h
    cases h
    simp -implicitDefEqProofs only [go_sem, Nat.reduceLT, Nat.reduceAdd, Nat.reduceSub, Nat.reduceMul, Nat.reduceEqDiff, Nat.reduceBEq, Nat.reduceLeDiff, Int.reduceToNat, Int.reduceLT, Int.reduceLE, Int.reduceEq, reduceCtorEq, ↓reduceIte, X37_22, k37_22, b367]
  · replace h := br_t b367 h
    obtain ⟨x368, q369, h⟩ := bnd_some h
    obtain ⟨g370, g371, g372⟩ := idx_row (encLInt .imm) q369
    try simp -implicitDefEqProofs only [go_sem, Nat.reduceLT, Nat.reduceAdd, Nat.reduceSub, Nat.reduceMul, Nat.reduceEqDiff, Nat.reduceBEq, Nat.reduceLeDiff, Int.reduceToNat, Int.reduceLT, Int.reduceLE, Int.reduceEq, reduceCtorEq, ↓reduceIte] at g371
    try simp -implicitDefEqProofs only [go_sem, Nat.reduceLT, Nat.reduceAdd, Nat.reduceSub, Nat.reduceMul, Nat.reduceEqDiff, Nat.reduceBEq, Nat.reduceLeDiff, Int.reduceToNat, Int.reduceLT, Int.reduceLE, Int.reduceEq, reduceCtorEq, ↓reduceIte] at g372
    obtain ⟨x373, q374, h⟩ := bnd_some h
    obtain ⟨g375, g376, g377⟩ := idx_row encInt q374
    try simp -implicitDefEqProofs only [go_sem, Nat.reduceLT, Nat.reduceAdd, Nat.reduceSub, Nat.reduceMul, Nat.reduceEqDiff, Nat.reduceBEq, Nat.reduceLeDiff, Int.reduceToNat, Int.reduceLT, Int.reduceLE, Int.reduceEq, reduceCtorEq, ↓reduceIte] at g376
    try simp -implicitDefEqProofs only [go_sem, Nat.reduceLT, Nat.reduceAdd, Nat.reduceSub, Nat.reduceMul, Nat.reduceEqDiff, Nat.reduceBEq, Nat.reduceLeDiff, Int.reduceToNat, Int.reduceLT, Int.reduceLE, Int.reduceEq, reduceCtorEq, ↓reduceIte] at g377
    obtain ⟨x378, q379, h⟩ := bnd_some h
    obtain ⟨g380, g381, g382⟩ := idx_row encInt q379
    try simp -implicitDefEqProofs only [go_sem, Nat.reduceLT, Nat.reduceAdd, Nat.reduceSub, Nat.reduceMul, Nat.reduceEqDiff, Nat.reduceBEq, Nat.reduceLeDiff, Int.reduceToNat, Int.reduceLT, Int.reduceLE, Int.reduceEq, reduceCtorEq, ↓reduceIte] at g381
    try simp -implicitDefEqProofs only [go_sem, Nat.reduceLT, Nat.reduceAdd, Nat.reduceSub, Nat.reduceMul, Nat.reduceEqDiff, Nat.reduceBEq, Nat.reduceLeDiff, Int.reduceToNat, Int.reduceLT, Int.reduceLE, Int.reduceEq, reduceCtorEq, ↓reduceIte] at g382
    obtain ⟨x383, q384, h⟩ := bnd_some h
    obtain ⟨g385, g386, g387⟩ := idx_row encInt q384
    try simp -implicitDefEqProofs only [go_sem, Nat.reduceLT, Nat.reduceAdd, Nat.reduceSub, Nat.reduceMul, Nat.reduceEqDiff, Nat.reduceBEq, Nat.reduceLeDiff, Int.reduceToNat, Int.reduceLT, Int.reduceLE, Int.reduceEq, reduceCtorEq, ↓reduceIte] at g386
    try simp -implicitDefEqProofs only [go_sem, Nat.reduceLT, Nat.reduceAdd, Nat.reduceSub, Nat.reduceMul, Nat.reduceEqDiff, Nat.reduceBEq, Nat.reduceLeDiff, Int.reduceToNat, Int.reduceLT, Int.reduceLE, Int.reduceEq, reduceCtorEq, ↓reduceIte] at g387
    cases h
    simp -implicitDefEqProofs only [go_sem, Nat.reduceLT, Nat.reduceAdd, Nat.reduceSub, Nat.reduceMul, Nat.reduceEqDiff, Nat.reduceBEq, Nat.reduceLeDiff, Int.reduceToNat, Int.reduceLT, Int.reduceLE, Int.reduceEq, reduceCtorEq, ↓reduceIte, X37_22, k37_22, b367, g370, g371, g372, g375, g376, g377, g380, g381, g382, g385, g386, g387]
noncomputable def X37_18 (a1 : (List Arc)) (s207 : Int) (v266 : Int) (a0 : Algebra) (p272 : List Bool) (o : (List Int)) : Ex × Fr × St :=
  (.exit 4, frOf 114 (upd (upd (upd (upd (upd anyF 1 (.ts .imm 3 (a1.map encArc))) 3 (.ptr 0 0 0)) 8 (.sl 1 0 o.length)) 9 (.sl 2 0 p272.length)) 10 (.int .i64 s207)), [some ⟨.box, 2, [[.int .i64 a0.weights, .ts .imm 1 (a0.apply.map (encLInt .imm))]]⟩, some ⟨.arr, 1, o.map encInt⟩, some ⟨.arr, 1, p272.map encBool⟩])
noncomputable def E37_18 (a1 : (List Arc)) (s207 : Int) (v266 : Int) (a0 : Algebra) (p272 : List Bool) (s : (Int × List Int)) : Fr × St := (frOf 114 (upd (upd (upd (upd (upd (upd (upd anyF 1 (.ts .imm 3 (a1.map encArc))) 3 (.ptr 0 0 0)) 8 (.sl 1 0 s.2.length)) 9 (.sl 2 0 p272.length)) 10 (.int .i64 s207)) 11 (.int .i64 v266)) 13 (.int .i64 s.1)), [some ⟨.box, 2, [[.int .i64 a0.weights, .ts .imm 1 (a0.apply.map (encLInt .imm))]]⟩, some ⟨.arr, 1, s.2.map encInt⟩, some ⟨.arr, 1, p272.map encBool⟩])
theorem b37_18 (a1 : (List Arc)) (s207 : Int) (v266 : Int) (a0 : Algebra) (p272 : List Bool) (s : (Int × List Int)) (o : Ctl (Int × List Int) (List Int)) (h : m37_18b a1 v266 a0 p272 s = some o) : evCL T 0 k37_18b (E37_18 a1 s207 v266 a0 p272 s).1 (E37_18 a1 s207 v266 a0 p272 s).2 = some (ctlX (E37_18 a1 s207 v266 a0 p272) (X37_18 a1 s207 v266 a0 p272) o) := by
  unfold m37_18b at h
  obtain ⟨s331, s332⟩ := s
  replace h := sel2_some h
  try simp -implicitDefEqProofs only [go_sem, Nat.reduceLT, Nat.reduceAdd, Nat.reduceSub, Nat.reduceMul, Nat.reduceEqDiff, Nat.reduceBEq, Nat.reduceLeDiff, Int.reduceToNat, Int.reduceLT, Int.reduceLE, Int.reduceEq, reduceCtorEq, ↓reduceIte, E37_18, X37_18, k37_18b]
  cases b333 : (ltI s331 6 : Bool)
  · replace h := br_f b333 h
    cases h
    simp -implicitDefEqProofs only [go_sem, Nat.reduceLT, Nat.reduceAdd, Nat.reduceSub, Nat.reduceMul, Nat.reduceEqDiff, Nat.reduceBEq, Nat.reduceLeDiff, Int.reduceToNat, Int.reduceLT, Int.reduceLE, Int.reduceEq, reduceCtorEq, ↓reduceIte, E37_18, X37_18, k37_18b, b333]
  · replace h := br_t b333 h
    obtain ⟨r336, q334, h⟩ := bnd_some h
    have w335 := e61 a1 s331 v266 r336 q334
    try simp -implicitDefEqProofs only [go_sem, Nat.reduceLT, Nat.reduceAdd, Nat.reduceSub, Nat.reduceMul, Nat.reduceEqDiff, Nat.reduceBEq, Nat.reduceLeDiff, Int.reduceToNat, Int.reduceLT, Int.reduceLE, Int.reduceEq, reduceCtorEq, ↓reduceIte] at w335
    obtain ⟨v366, q364, h⟩ := bnd_some h
    have w365 := e37_21 a1 s207 v266 s331 r336 a0 s332 p272 v366 q364
    simp only [X37_21] at w365
    try simp -implicitDefEqProofs only [go_sem, Nat.reduceLT, Nat.reduceAdd, Nat.reduceSub, Nat.reduceMul, Nat.reduceEqDiff, Nat.reduceBEq, Nat.reduceLeDiff, Int.reduceToNat, Int.reduceLT, Int.reduceLE, Int.reduceEq, reduceCtorEq, ↓reduceIte] at w365
    obtain ⟨v390, q388, h⟩ := bnd_some h
    have w389 := e37_22 a1 s207 v266 s331 r336 v366 a0 s332 p272 v390 q388
    simp only [X37_22] at w389
    try simp -implicitDefEqProofs only [go_sem, Nat.reduceLT, Nat.reduceAdd, Nat.reduceSub, Nat.reduceMul, Nat.reduceEqDiff, Nat.reduceBEq, Nat.reduceLeDiff, Int.reduceToNat, Int.reduceLT, Int.reduceLE, Int.reduceEq, reduceCtorEq, ↓reduceIte] at w389
    cases h
    simp -implicitDefEqProofs only [go_sem, Nat.reduceLT, Nat.reduceAdd, Nat.reduceSub, Nat.reduceMul, Nat.reduceEqDiff, Nat.reduceBEq, Nat.reduceLeDiff, Int.reduceToNat, Int.reduceLT, Int.reduceLE, Int.reduceEq, reduceCtorEq, ↓reduceIte, E37_18, X37_18, k37_18b, b333, w335, w365, w389]
theorem e37_18 (a1 : (List Arc)) (s207 : Int) (v266 : Int) (a0 : Algebra) (p272 : List Bool) (s : (Int × List Int)) (o : (List Int)) (h : loopP (m37_18b a1 v266 a0 p272) s = some o) : evCL T 0 (.loop k37_18b) (E37_18 a1 s207 v266 a0 p272 s).1 (E37_18 a1 s207 v266 a0 p272 s).2 = some (X37_18 a1 s207 v266 a0 p272 o) :=
  loop_walk (E := E37_18 a1 s207 v266 a0 p272) (X := X37_18 a1 s207 v266 a0 p272) (by intro b; (simp only [X37_18]; nofun)) (b37_18 a1 s207 v266 a0 p272) s o h
noncomputable def X37_2 (a1 : (List Arc)) (a0 : Algebra) (o : (List Int)) : Ex × Fr × St :=
  (.exit 0, frOf 114 (upd anyF 8 (.sl 0 0 o.length)), [some ⟨.arr, 1, o.map encInt⟩])
noncomputable def E37_2 (a1 : (List Arc)) (a0 : Algebra) (s : (Int × List Int × List Bool)) : Fr × St := (frOf 114 (upd (upd (upd (upd (upd anyF 1 (.ts .imm 3 (a1.map encArc))) 3 (.ptr 0 0 0)) 8 (.sl 1 0 s.2.1.length)) 9 (.sl 2 0 s.2.2.length)) 10 (.int .i64 s.1)), [some ⟨.box, 2, [[.int .i64 a0.weights, .ts .imm 1 (a0.apply.map (encLInt .imm))]]⟩, some ⟨.arr, 1, s.2.1.map encInt⟩, some ⟨.arr, 1, s.2.2.map encBool⟩])
theorem b37_2 (a1 : (List Arc)) (a0 : Algebra) (s : (Int × List Int × List Bool)) (o : Ctl (Int × List Int × List Bool) (List Int)) (h : m37_2b a1 a0 s = some o) : evCL T 0 k37_2b (E37_2 a1 a0 s).1 (E37_2 a1 a0 s).2 = some (ctlX (E37_2 a1 a0) (X37_2 a1 a0) o) := by
  unfold m37_2b at h
  obtain ⟨s207, s208, s209⟩ := s
  replace h := sel3_some h
  try simp -implicitDefEqProofs only [go_sem, Nat.reduceLT, Nat.reduceAdd, Nat.reduceSub, Nat.reduceMul, Nat.reduceEqDiff, Nat.reduceBEq, Nat.reduceLeDiff, Int.reduceToNat, Int.reduceLT, Int.reduceLE, Int.reduceEq, reduceCtorEq, ↓reduceIte, E37_2, X37_2, k37_2b]
  cases b210 : (ltI s207 6 : Bool)
  · replace h := br_f b210 h
    cases h
    simp -implicitDefEqProofs only [go_sem, Nat.reduceLT, Nat.reduceAdd, Nat.reduceSub, Nat.reduceMul, Nat.reduceEqDiff, Nat.reduceBEq, Nat.reduceLeDiff, Int.reduceToNat, Int.reduceLT, Int.reduceLE, Int.reduceEq, reduceCtorEq, ↓reduceIte, E37_2, X37_2, k37_2b, b210]
  · replace h := br_t b210 h
    obtain ⟨v266, q264, h⟩ := bnd_some h
    have w265 := e37_13 a1 s207 (↑s208.length : Int) a0 s208 s209 ((-1), 0) v266 q264
    simp only [E37_13, X37_13] at w265
    try simp -implicitDefEqProofs only [go_sem, Nat.reduceLT, Nat.reduceAdd, Nat.reduceSub, Nat.reduceMul, Nat.reduceEqDiff, Nat.reduceBEq, Nat.reduceLeDiff, Int.reduceToNat, Int.reduceLT, Int.reduceLE, Int.reduceEq, reduceCtorEq, ↓reduceIte] at w265
    obtain ⟨x267, q268, h⟩ := bnd_some h
    obtain ⟨g269, g270, g271⟩ := idx_row encBool q268
    try simp -implicitDefEqProofs only [go_sem, Nat.reduceLT, Nat.reduceAdd, Nat.reduceSub, Nat.reduceMul, Nat.reduceEqDiff, Nat.reduceBEq, Nat.reduceLeDiff, Int.reduceToNat, Int.reduceLT, Int.reduceLE, Int.reduceEq, reduceCtorEq, ↓reduceIte] at g270
    try simp -implicitDefEqProofs only [go_sem, Nat.reduceLT, Nat.reduceAdd, Nat.reduceSub, Nat.reduceMul, Nat.reduceEqDiff, Nat.reduceBEq, Nat.reduceLeDiff, Int.reduceToNat, Int.reduceLT, Int.reduceLE, Int.reduceEq, reduceCtorEq, ↓reduceIte] at g271
    obtain ⟨v393, q391, h⟩ := bnd_some h
    have w392 := e37_18 a1 s207 v266 a0 (s209.set v266.toNat true) (0, s208) v393 q391
    simp only [E37_18, X37_18] at w392
    try simp -implicitDefEqProofs only [go_sem, Nat.reduceLT, Nat.reduceAdd, Nat.reduceSub, Nat.reduceMul, Nat.reduceEqDiff, Nat.reduceBEq, Nat.reduceLeDiff, Int.reduceToNat, Int.reduceLT, Int.reduceLE, Int.reduceEq, reduceCtorEq, ↓reduceIte] at w392
    cases h
    simp -implicitDefEqProofs only [go_sem, Nat.reduceLT, Nat.reduceAdd, Nat.reduceSub, Nat.reduceMul, Nat.reduceEqDiff, Nat.reduceBEq, Nat.reduceLeDiff, Int.reduceToNat, Int.reduceLT, Int.reduceLE, Int.reduceEq, reduceCtorEq, ↓reduceIte, E37_2, X37_2, k37_2b, b210, w265, g269, g270, g271, w392]
theorem e37_2 (a1 : (List Arc)) (a0 : Algebra) (s : (Int × List Int × List Bool)) (o : (List Int)) (h : loopP (m37_2b a1 a0) s = some o) : evCL T 0 (.loop k37_2b) (E37_2 a1 a0 s).1 (E37_2 a1 a0 s).2 = some (X37_2 a1 a0 o) :=
  loop_walk (E := E37_2 a1 a0) (X := X37_2 a1 a0) (by intro b; (simp only [X37_2]; nofun)) (b37_2 a1 a0) s o h
theorem e37 (a0 : Algebra) (a1 : (List Arc)) (a2 : Int) (r : ((List Int) × Bool)) (h : m37 a0 a1 a2 = some r) : evFL T 37 [.agg [.int .i64 a0.weights, .ts .imm 1 (a0.apply.map (encLInt .imm))], .ts .imm 3 (a1.map encArc), .int .i64 a2] [] = some (.tup [.sl 0 0 r.1.length, .bool r.2], [some ⟨.arr, 1, r.1.map encInt⟩]) := by
  unfold m37 at h
  rw [evFL_at fn37 (Nat.le_of_ble_eq_true rfl) rfl (.inr rfl) ⟨rfl, rfl⟩]
  obtain ⟨v10, q8, h⟩ := bnd_some h
  have w9 := e37_1 a1 a2 a0 v10 q8
  simp only [X37_1] at w9
  try simp -implicitDefEqProofs only [go_sem, Nat.reduceLT, Nat.reduceAdd, Nat.reduceSub, Nat.reduceMul, Nat.reduceEqDiff, Nat.reduceBEq, Nat.reduceLeDiff, Int.reduceToNat, Int.reduceLT, Int.reduceLE, Int.reduceEq, reduceCtorEq, ↓reduceIte] at w9
  try simp -implicitDefEqProofs only [go_sem, Nat.reduceLT, Nat.reduceAdd, Nat.reduceSub, Nat.reduceMul, Nat.reduceEqDiff, Nat.reduceBEq, Nat.reduceLeDiff, Int.reduceToNat, Int.reduceLT, Int.reduceLE, Int.reduceEq, reduceCtorEq, ↓reduceIte, i37, c37, w9]
  cases b11 : (v10 : Bool)
  · replace h := br_f b11 h
    obtain ⟨r14, q12, h⟩ := bnd_some h
    have w13 := e68 a0 r14 q12
    try simp -implicitDefEqProofs only [go_sem, Nat.reduceLT, Nat.reduceAdd, Nat.reduceSub, Nat.reduceMul, Nat.reduceEqDiff, Nat.reduceBEq, Nat.reduceLeDiff, Int.reduceToNat, Int.reduceLT, Int.reduceLE, Int.reduceEq, reduceCtorEq, ↓reduceIte] at w13
    obtain ⟨x15, q16, h⟩ := bnd_some h
    obtain ⟨g17, g18, g19⟩ := idx_row encInt q16
    try simp -implicitDefEqProofs only [go_sem, Nat.reduceLT, Nat.reduceAdd, Nat.reduceSub, Nat.reduceMul, Nat.reduceEqDiff, Nat.reduceBEq, Nat.reduceLeDiff, Int.reduceToNat, Int.reduceLT, Int.reduceLE, Int.reduceEq, reduceCtorEq, ↓reduceIte] at g18
    try simp -implicitDefEqProofs only [go_sem, Nat.reduceLT, Nat.reduceAdd, Nat.reduceSub, Nat.reduceMul, Nat.reduceEqDiff, Nat.reduceBEq, Nat.reduceLeDiff, Int.reduceToNat, Int.reduceLT, Int.reduceLE, Int.reduceEq, reduceCtorEq, ↓reduceIte] at g19
    obtain ⟨g20, h⟩ := ck_some h
    try simp -implicitDefEqProofs only [go_sem, Nat.reduceLT, Nat.reduceAdd, Nat.reduceSub, Nat.reduceMul, Nat.reduceEqDiff, Nat.reduceBEq, Nat.reduceLeDiff, Int.reduceToNat, Int.reduceLT, Int.reduceLE, Int.reduceEq, reduceCtorEq, ↓reduceIte] at g20
    obtain ⟨v396, q394, h⟩ := bnd_some h
    have w395 := e37_2 a1 a0 (0, r14.set a2.toNat 0, List.replicate 6 false) v396 q394
    simp only [E37_2, X37_2] at w395
    try simp -implicitDefEqProofs only [go_sem, Nat.reduceLT, Nat.reduceAdd, Nat.reduceSub, Nat.reduceMul, Nat.reduceEqDiff, Nat.reduceBEq, Nat.reduceLeDiff, Int.reduceToNat, Int.reduceLT, Int.reduceLE, Int.reduceEq, reduceCtorEq, ↓reduceIte] at w395
    cases h
    simp -implicitDefEqProofs only [go_sem, Nat.reduceLT, Nat.reduceAdd, Nat.reduceSub, Nat.reduceMul, Nat.reduceEqDiff, Nat.reduceBEq, Nat.reduceLeDiff, Int.reduceToNat, Int.reduceLT, Int.reduceLE, Int.reduceEq, reduceCtorEq, ↓reduceIte, i37, c37, w9, b11, w13, g17, g18, g19, g20, w395]
  · replace h := br_t b11 h
    cases h
    simp -implicitDefEqProofs only [go_sem, Nat.reduceLT, Nat.reduceAdd, Nat.reduceSub, Nat.reduceMul, Nat.reduceEqDiff, Nat.reduceBEq, Nat.reduceLeDiff, Int.reduceToNat, Int.reduceLT, Int.reduceLE, Int.reduceEq, reduceCtorEq, ↓reduceIte, i37, c37, w9, b11]
-- f48 impl.within
theorem call48 (args : List AV) (S : St) : evCall T (evFL T) 48 args S = lendC (evFL T 48) S (lendAll S [[0], [0], [0]] args) := evCall0 fn48 rfl rfl rfl args S
theorem callz48 (args : List AV) (S : St) : evCallFz T (evFL T) 48 args S = lendZ (evFL T 48) S [[0]] (lendAll S [[0], [0], [0]] args) := evCallFz0 fn48 rfl rfl rfl args S
theorem calls48 (args : List AV) (S : St) : evCall (T.at true) (evFL T) 48 args S = lendC (evFL T 48) S (lendAll S [[0], [0], [0]] args) := evCall0 fns48 rfl rfl rfl args S
theorem callsz48 (args : List AV) (S : St) : evCallFz (T.at true) (evFL T) 48 args S = lendZ (evFL T 48) S [[0]] (lendAll S [[0], [0], [0]] args) := evCallFz0 fns48 rfl rfl rfl args S
attribute [go_sem] call48 callz48 calls48 callsz48
noncomputable def X48_1 (a0 : Int) (a1 : Int) (a2 : Int) (o : Bool) : Ex × Fr × St :=
  (.normal, frOf 15 (upd anyF 6 (.bool o)), [])
theorem e48_1 (a0 : Int) (a1 : Int) (a2 : Int) (o : Bool) (h : m48_1 a0 a1 a2 = some o) : evCL T 0 k48_1 (frOf 15 (upd (upd (upd anyF 0 (.int .i64 a0)) 1 (.int .i64 a1)) 2 (.int .i64 a2))) [] = some (X48_1 a0 a1 a2 o) := by
  unfold m48_1 at h
  try simp -implicitDefEqProofs only [go_sem, Nat.reduceLT, Nat.reduceAdd, Nat.reduceSub, Nat.reduceMul, Nat.reduceEqDiff, Nat.reduceBEq, Nat.reduceLeDiff, Int.reduceToNat, Int.reduceLT, Int.reduceLE, Int.reduceEq, reduceCtorEq, ↓reduceIte, X48_1, k48_1]
  cases b1 : (leI a1 a0 : Bool)
  · replace h := br_f b1 h
    cases h
    simp -implicitDefEqProofs only [go_sem, Nat.reduceLT, Nat.reduceAdd, Nat.reduceSub, Nat.reduceMul, Nat.reduceEqDiff, Nat.reduceBEq, Nat.reduceLeDiff, Int.reduceToNat, Int.reduceLT, Int.reduceLE, Int.reduceEq, reduceCtorEq, ↓reduceIte, X48_1, k48_1, b1]
  · replace h := br_t b1 h
    cases h
    simp -implicitDefEqProofs only [go_sem, Nat.reduceLT, Nat.reduceAdd, Nat.reduceSub, Nat.reduceMul, Nat.reduceEqDiff, Nat.reduceBEq, Nat.reduceLeDiff, Int.reduceToNat, Int.reduceLT, Int.reduceLE, Int.reduceEq, reduceCtorEq, ↓reduceIte, X48_1, k48_1, b1]
theorem e48 (a0 : Int) (a1 : Int) (a2 : Int) (r : Bool) (h : m48 a0 a1 a2 = some r) : evFL T 48 [.int .i64 a0, .int .i64 a1, .int .i64 a2] [] = some (.bool r, []) := by
  unfold m48 at h
  rw [evFL_at fn48 (Nat.le_of_ble_eq_true rfl) rfl (.inr rfl) ⟨rfl, rfl⟩]
  obtain ⟨v4, q2, h⟩ := bnd_some h
  have w3 := e48_1 a0 a1 a2 v4 q2
  simp only [X48_1] at w3
  try simp -implicitDefEqProofs only [go_sem, Nat.reduceLT, Nat.reduceAdd, Nat.reduceSub, Nat.reduceMul, Nat.reduceEqDiff, Nat.reduceBEq, Nat.reduceLeDiff, Int.reduceToNat, Int.reduceLT, Int.reduceLE, Int.reduceEq, reduceCtorEq, ↓reduceIte] at w3
  cases h
  simp -implicitDefEqProofs only [go_sem, Nat.reduceLT, Nat.reduceAdd, Nat.reduceSub, Nat.reduceMul, Nat.reduceEqDiff, Nat.reduceBEq, Nat.reduceLeDiff, Int.reduceToNat, Int.reduceLT, Int.reduceLE, Int.reduceEq, reduceCtorEq, ↓reduceIte, i48, c48, w3]
-- f77 slices.IndexFunc[[][]int,[]int]
theorem call77 (args : List AV) (S : St) : evCall T (evFL T) 77 args S = lendC (evFL T 77) S (lendAll S [[1], [0]] args) := evCall0 fn77 rfl rfl rfl args S
theorem callz77 (args : List AV) (S : St) : evCallFz T (evFL T) 77 args S = lendZ (evFL T 77) S [[0]] (lendAll S [[1], [0]] args) := evCallFz0 fn77 rfl rfl rfl args S
theorem calls77 (args : List AV) (S : St) : evCall (T.at true) (evFL T) 77 args S = lendC (evFL T 77) S (lendAll S [[1], [0]] args) := evCall0 fns77 rfl rfl rfl args S
theorem callsz77 (args : List AV) (S : St) : evCallFz (T.at true) (evFL T) 77 args S = lendZ (evFL T 77) S [[0]] (lendAll S [[1], [0]] args) := evCallFz0 fns77 rfl rfl rfl args S
attribute [go_sem] call77 callz77 calls77 callsz77
noncomputable def X77_1 (a1_f : Nat) (a1_c : List AV) (a0 : (List (List Int))) (p1 : Int) (a1 : ((List Int) → Option Bool)) (o : (Unit ⊕ Int)) : Ex × Fr × St :=
  match o with
  | .inl o => (.exit 0, frOf 19 (anyF), [])
  | .inr o => (.ret, frOf 19 (upd anyF 4 (.int .i64 o)), [])
noncomputable def E77_1 (a1_f : Nat) (a1_c : List AV) (a0 : (List (List Int))) (p1 : Int) (a1 : ((List Int) → Option Bool)) (s : Int) : Fr × St := (frOf 19 (upd (upd (upd (upd anyF 0 (.ts .imm 1 (a0.map (encLInt .imm)))) 1 (.fn a1_f a1_c)) 7 (.int .i64 p1)) 8 (.int .i64 s)), [])
theorem b77_1 (a0 : (List (List Int))) (p1 : Int) (a1 : ((List Int) → Option Bool)) (a1_f : Nat) (a1_c : List AV) (a1_h : ((∀ S, mapO (lendPtr S) a1_c = some a1_c) ∧ (∀ n0 src R tm t c, tdL n0 src R tm t c a1_c = some a1_c)) ∧ ∀ y0 r, a1 y0 = some r → (∀ S, evCall T (evFL T) a1_f ([.ts .imm 1 (y0.map encInt)] ++ a1_c) S = some (.bool r, S)) ∧ (∀ S, evCallFz T (evFL T) a1_f ([.ts .imm 1 (y0.map encInt)] ++ a1_c) S = some (.bool r, S))) (s : Int) (o : Ctl Int (Unit ⊕ Int)) (h : m77_1b a0 p1 a1 s = some o) : evCL T 0 k77_1b (E77_1 a1_f a1_c a0 p1 a1 s).1 (E77_1 a1_f a1_c a0 p1 a1 s).2 = some (ctlX (E77_1 a1_f a1_c a0 p1 a1) (X77_1 a1_f a1_c a0 p1 a1) o) := by
  unfold m77_1b at h
  revert h
  generalize s = s12
  intro h
  try simp -implicitDefEqProofs only [go_sem, Nat.reduceLT, Nat.reduceAdd, Nat.reduceSub, Nat.reduceMul, Nat.reduceEqDiff, Nat.reduceBEq, Nat.reduceLeDiff, Int.reduceToNat, Int.reduceLT, Int.reduceLE, Int.reduceEq, reduceCtorEq, ↓reduceIte, E77_1, X77_1, k77_1b, a1_h.1]
  cases b13 : (ltI s12 p1 : Bool)
  · replace h := br_f b13 h
    cases h
    simp -implicitDefEqProofs only [go_sem, Nat.reduceLT, Nat.reduceAdd, Nat.reduceSub, Nat.reduceMul, Nat.reduceEqDiff, Nat.reduceBEq, Nat.reduceLeDiff, Int.reduceToNat, Int.reduceLT, Int.reduceLE, Int.reduceEq, reduceCtorEq, ↓reduceIte, E77_1, X77_1, k77_1b, a1_h.1, b13]
  · replace h := br_t b13 h
    obtain ⟨x14, q15, h⟩ := bnd_some h
    obtain ⟨g16, g17, g18⟩ := idx_row (encLInt .imm) q15
    try simp -implicitDefEqProofs only [go_sem, Nat.reduceLT, Nat.reduceAdd, Nat.reduceSub, Nat.reduceMul, Nat.reduceEqDiff, Nat.reduceBEq, Nat.reduceLeDiff, Int.reduceToNat, Int.reduceLT, Int.reduceLE, Int.reduceEq, reduceCtorEq, ↓reduceIte] at g17
    try simp -implicitDefEqProofs only [go_sem, Nat.reduceLT, Nat.reduceAdd, Nat.reduceSub, Nat.reduceMul, Nat.reduceEqDiff, Nat.reduceBEq, Nat.reduceLeDiff, Int.reduceToNat, Int.reduceLT, Int.reduceLE, Int.reduceEq, reduceCtorEq, ↓reduceIte] at g18
    obtain ⟨r19, q20, h⟩ := bnd_some h
    have w21 := a1_h.2 x14 r19 q20
    try simp -implicitDefEqProofs only [go_sem, Nat.reduceLT, Nat.reduceAdd, Nat.reduceSub, Nat.reduceMul, Nat.reduceEqDiff, Nat.reduceBEq, Nat.reduceLeDiff, Int.reduceToNat, Int.reduceLT, Int.reduceLE, Int.reduceEq, reduceCtorEq, ↓reduceIte] at w21
    try simp -implicitDefEqProofs only [go_sem, Nat.reduceLT, Nat.reduceAdd, Nat.reduceSub, Nat.reduceMul, Nat.reduceEqDiff, Nat.reduceBEq, Nat.reduceLeDiff, Int.reduceToNat, Int.reduceLT, Int.reduceLE, Int.reduceEq, reduceCtorEq, ↓reduceIte, E77_1, X77_1, k77_1b, a1_h.1, b13, g16, g17, g18, w21.1, w21.2]
    cases b22 : (r19 : Bool)
    · replace h := br_f b22 h
      cases h
      simp -implicitDefEqProofs only [go_sem, Nat.reduceLT, Nat.reduceAdd, Nat.reduceSub, Nat.reduceMul, Nat.reduceEqDiff, Nat.reduceBEq, Nat.reduceLeDiff, Int.reduceToNat, Int.reduceLT, Int.reduceLE, Int.reduceEq, reduceCtorEq, ↓reduceIte, E77_1, X77_1, k77_1b, a1_h.1, b13, g16, g17, g18, w21.1, w21.2, b22]
    · replace h := br_t b22 h
      cases h
      simp -implicitDefEqProofs only [go_sem, Nat.reduceLT, Nat.reduceAdd, Nat.reduceSub, Nat.reduceMul, Nat.reduceEqDiff, Nat.reduceBEq, Nat.reduceLeDiff, Int.reduceToNat, Int.reduceLT, Int.reduceLE, Int.reduceEq, reduceCtorEq, ↓reduceIte, E77_1, X77_1, k77_1b, a1_h.1, b13, g16, g17, g18, w21.1, w21.2, b22]
theorem e77_1 (a0 : (List (List Int))) (p1 : Int) (a1 : ((List Int) → Option Bool)) (a1_f : Nat) (a1_c : List AV) (a1_h : ((∀ S, mapO (lendPtr S) a1_c = some a1_c) ∧ (∀ n0 src R tm t c, tdL n0 src R tm t c a1_c = some a1_c)) ∧ ∀ y0 r, a1 y0 = some r → (∀ S, evCall T (evFL T) a1_f ([.ts .imm 1 (y0.map encInt)] ++ a1_c) S = some (.bool r, S)) ∧ (∀ S, evCallFz T (evFL T) a1_f ([.ts .imm 1 (y0.map encInt)] ++ a1_c) S = some (.bool r, S))) (s : Int) (o : (Unit ⊕ Int)) (h : loopP (m77_1b a0 p1 a1) s = some o) : evCL T 0 (.loop k77_1b) (E77_1 a1_f a1_c a0 p1 a1 s).1 (E77_1 a1_f a1_c a0 p1 a1 s).2 = some (X77_1 a1_f a1_c a0 p1 a1 o) :=
  loop_walk (E := E77_1 a1_f a1_c a0 p1 a1) (X := X77_1 a1_f a1_c a0 p1 a1) (by intro b; rcases b with b | b <;> (simp only [X77_1]; nofun)) (b77_1 a0 p1 a1 a1_f a1_c a1_h) s o h
theorem e77 (a0 : (List (List Int))) (a1 : ((List Int) → Option Bool)) (a1_f : Nat) (a1_c : List AV) (a1_h : ((∀ S, mapO (lendPtr S) a1_c = some a1_c) ∧ (∀ n0 src R tm t c, tdL n0 src R tm t c a1_c = some a1_c)) ∧ ∀ y0 r, a1 y0 = some r → (∀ S, evCall T (evFL T) a1_f ([.ts .imm 1 (y0.map encInt)] ++ a1_c) S = some (.bool r, S)) ∧ (∀ S, evCallFz T (evFL T) a1_f ([.ts .imm 1 (y0.map encInt)] ++ a1_c) S = some (.bool r, S))) (r : Int) (h : m77 a0 a1 = some r) : evFL T 77 [.ts .imm 1 (a0.map (encLInt .imm)), .fn a1_f a1_c] [] = some (.int .i64 r, []) := by
  unfold m77 at h
  rw [evFL_at fn77 (Nat.le_of_ble_eq_true rfl) rfl (.inr rfl) ⟨rfl, rfl⟩]
  try simp -implicitDefEqProofs only [go_sem, Nat.reduceLT, Nat.reduceAdd, Nat.reduceSub, Nat.reduceMul, Nat.reduceEqDiff, Nat.reduceBEq, Nat.reduceLeDiff, Int.reduceToNat, Int.reduceLT, Int.reduceLE, Int.reduceEq, reduceCtorEq, ↓reduceIte, i77, c77, a1_h.1]
  obtain ⟨o, q23, h⟩ := bnd_some h
  rcases o with ⟨⟩ | v25
  · replace h := selS_l h
    have w24 := e77_1 a0 (↑a0.length : Int) a1 a1_f a1_c a1_h 0 (.inl ()) q23
    simp only [E77_1, X77_1] at w24
    try simp -implicitDefEqProofs only [go_sem, Nat.reduceLT, Nat.reduceAdd, Nat.reduceSub, Nat.reduceMul, Nat.reduceEqDiff, Nat.reduceBEq, Nat.reduceLeDiff, Int.reduceToNat, Int.reduceLT, Int.reduceLE, Int.reduceEq, reduceCtorEq, ↓reduceIte] at w24
    cases h
    simp -implicitDefEqProofs only [go_sem, Nat.reduceLT, Nat.reduceAdd, Nat.reduceSub, Nat.reduceMul, Nat.reduceEqDiff, Nat.reduceBEq, Nat.reduceLeDiff, Int.reduceToNat, Int.reduceLT, Int.reduceLE, Int.reduceEq, reduceCtorEq, ↓reduceIte, i77, c77, a1_h.1, w24]
  · replace h := selS_r h
    have w24 := e77_1 a0 (↑a0.length : Int) a1 a1_f a1_c a1_h 0 (.inr v25) q23
    simp only [E77_1, X77_1] at w24
    try simp -implicitDefEqProofs only [go_sem, Nat.reduceLT, Nat.reduceAdd, Nat.reduceSub, Nat.reduceMul, Nat.reduceEqDiff, Nat.reduceBEq, Nat.reduceLeDiff, Int.reduceToNat, Int.reduceLT, Int.reduceLE, Int.reduceEq, reduceCtorEq, ↓reduceIte] at w24
    cases h
    simp -implicitDefEqProofs only [go_sem, Nat.reduceLT, Nat.reduceAdd, Nat.reduceSub, Nat.reduceMul, Nat.reduceEqDiff, Nat.reduceBEq, Nat.reduceLeDiff, Int.reduceToNat, Int.reduceLT, Int.reduceLE, Int.reduceEq, reduceCtorEq, ↓reduceIte, i77, c77, a1_h.1, w24]
-- f49 slices.ContainsFunc[[][]int,[]int]
theorem call49 (args : List AV) (S : St) : evCall T (evFL T) 49 args S = lendC (evFL T 49) S (lendAll S [[1], [0]] args) := evCall0 fn49 rfl rfl rfl args S
theorem callz49 (args : List AV) (S : St) : evCallFz T (evFL T) 49 args S = lendZ (evFL T 49) S [[0]] (lendAll S [[1], [0]] args) := evCallFz0 fn49 rfl rfl rfl args S
theorem calls49 (args : List AV) (S : St) : evCall (T.at true) (evFL T) 49 args S = lendC (evFL T 49) S (lendAll S [[1], [0]] args) := evCall0 fns49 rfl rfl rfl args S
theorem callsz49 (args : List AV) (S : St) : evCallFz (T.at true) (evFL T) 49 args S = lendZ (evFL T 49) S [[0]] (lendAll S [[1], [0]] args) := evCallFz0 fns49 rfl rfl rfl args S
attribute [go_sem] call49 callz49 calls49 callsz49
theorem e49 (a0 : (List (List Int))) (a1 : ((List Int) → Option Bool)) (a1_f : Nat) (a1_c : List AV) (a1_h : ((∀ S, mapO (lendPtr S) a1_c = some a1_c) ∧ (∀ n0 src R tm t c, tdL n0 src R tm t c a1_c = some a1_c)) ∧ ∀ y0 r, a1 y0 = some r → (∀ S, evCall T (evFL T) a1_f ([.ts .imm 1 (y0.map encInt)] ++ a1_c) S = some (.bool r, S)) ∧ (∀ S, evCallFz T (evFL T) a1_f ([.ts .imm 1 (y0.map encInt)] ++ a1_c) S = some (.bool r, S))) (r : Bool) (h : m49 a0 a1 = some r) : evFL T 49 [.ts .imm 1 (a0.map (encLInt .imm)), .fn a1_f a1_c] [] = some (.bool r, []) := by
  unfold m49 at h
  rw [evFL_at fn49 (Nat.le_of_ble_eq_true rfl) rfl (.inr rfl) ⟨rfl, rfl⟩]
  obtain ⟨r3, q1, h⟩ := bnd_some h
  have w2 := e77 a0 a1 a1_f a1_c a1_h r3 q1
  try simp -implicitDefEqProofs only [go_sem, Nat.reduceLT, Nat.reduceAdd, Nat.reduceSub, Nat.reduceMul, Nat.reduceEqDiff, Nat.reduceBEq, Nat.reduceLeDiff, Int.reduceToNat, Int.reduceLT, Int.reduceLE, Int.reduceEq, reduceCtorEq, ↓reduceIte] at w2
  cases h
  simp -implicitDefEqProofs only [go_sem, Nat.reduceLT, Nat.reduceAdd, Nat.reduceSub, Nat.reduceMul, Nat.reduceEqDiff, Nat.reduceBEq, Nat.reduceLeDiff, Int.reduceToNat, Int.reduceLT, Int.reduceLE, Int.reduceEq, reduceCtorEq, ↓reduceIte, i49, c49, a1_h.1, w2]
-- f51 (impl.Algebra).worst
theorem call51 (args : List AV) (S : St) : evCall T (evFL T) 51 args S = lendC (evFL T 51) S (lendAll S [[0, 1]] args) := evCall0 fn51 rfl rfl rfl args S
theorem callz51 (args : List AV) (S : St) : evCallFz T (evFL T) 51 args S = lendZ (evFL T 51) S [[0]] (lendAll S [[0, 1]] args) := evCallFz0 fn51 rfl rfl rfl args S
theorem calls51 (args : List AV) (S : St) : evCall (T.at true) (evFL T) 51 args S = lendC (evFL T 51) S (lendAll S [[0, 1]] args) := evCall0 fns51 rfl rfl rfl args S
theorem callsz51 (args : List AV) (S : St) : evCallFz (T.at true) (evFL T) 51 args S = lendZ (evFL T 51) S [[0]] (lendAll S [[0, 1]] args) := evCallFz0 fns51 rfl rfl rfl args S
attribute [go_sem] call51 callz51 calls51 callsz51
theorem e51 (a0 : Algebra) (r : Int) (h : m51 a0 = some r) : evFL T 51 [.agg [.int .i64 a0.weights, .ts .imm 1 (a0.apply.map (encLInt .imm))]] [] = some (.int .i64 r, []) := by
  unfold m51 at h
  rw [evFL_at fn51 (Nat.le_of_ble_eq_true rfl) rfl (.inr rfl) ⟨rfl, rfl⟩]
  cases h
  simp -implicitDefEqProofs only [go_sem, Nat.reduceLT, Nat.reduceAdd, Nat.reduceSub, Nat.reduceMul, Nat.reduceEqDiff, Nat.reduceBEq, Nat.reduceLeDiff, Int.reduceToNat, Int.reduceLT, Int.reduceLE, Int.reduceEq, reduceCtorEq, ↓reduceIte, i51, c51]
-- f78 slices.IndexFunc[[]int,int]
theorem call78 (args : List AV) (S : St) : evCall T (evFL T) 78 args S = lendC (evFL T 78) S (lendAll S [[1], [0]] args) := evCall0 fn78 rfl rfl rfl args S
theorem callz78 (args : List AV) (S : St) : evCallFz T (evFL T) 78 args S = lendZ (evFL T 78) S [[0]] (lendAll S [[1], [0]] args) := evCallFz0 fn78 rfl rfl rfl args S
theorem calls78 (args : List AV) (S : St) : evCall (T.at true) (evFL T) 78 args S = lendC (evFL T 78) S (lendAll S [[1], [0]] args) := evCall0 fns78 rfl rfl rfl args S
theorem callsz78 (args : List AV) (S : St) : evCallFz (T.at true) (evFL T) 78 args S = lendZ (evFL T 78) S [[0]] (lendAll S [[1], [0]] args) := evCallFz0 fns78 rfl rfl rfl args S
attribute [go_sem] call78 callz78 calls78 callsz78
noncomputable def X78_1 (a1_f : Nat) (a1_c : List AV) (a0 : (List Int)) (p1 : Int) (a1 : (Int → Option Bool)) (o : (Unit ⊕ Int)) : Ex × Fr × St :=
  match o with
  | .inl o => (.exit 0, frOf 19 (anyF), [])
  | .inr o => (.ret, frOf 19 (upd anyF 4 (.int .i64 o)), [])
noncomputable def E78_1 (a1_f : Nat) (a1_c : List AV) (a0 : (List Int)) (p1 : Int) (a1 : (Int → Option Bool)) (s : Int) : Fr × St := (frOf 19 (upd (upd (upd (upd anyF 0 (.ts .imm 1 (a0.map encInt))) 1 (.fn a1_f a1_c)) 7 (.int .i64 p1)) 8 (.int .i64 s)), [])
theorem b78_1 (a0 : (List Int)) (p1 : Int) (a1 : (Int → Option Bool)) (a1_f : Nat) (a1_c : List AV) (a1_h : ((∀ S, mapO (lendPtr S) a1_c = some a1_c) ∧ (∀ n0 src R tm t c, tdL n0 src R tm t c a1_c = some a1_c)) ∧ ∀ y0 r, a1 y0 = some r → (∀ S, evCall T (evFL T) a1_f ([.int .i64 y0] ++ a1_c) S = some (.bool r, S)) ∧ (∀ S, evCallFz T (evFL T) a1_f ([.int .i64 y0] ++ a1_c) S = some (.bool r, S))) (s : Int) (o : Ctl Int (Unit ⊕ Int)) (h : m78_1b a0 p1 a1 s = some o) : evCL T 0 k78_1b (E78_1 a1_f a1_c a0 p1 a1 s).1 (E78_1 a1_f a1_c a0 p1 a1 s).2 = some (ctlX (E78_1 a1_f a1_c a0 p1 a1) (X78_1 a1_f a1_c a0 p1 a1) o) := by
  unfold m78_1b at h
  revert h
  generalize s = s12
  intro h
  try simp -implicitDefEqProofs only [go_sem, Nat.reduceLT, Nat.reduceAdd, Nat.reduceSub, Nat.reduceMul, Nat.reduceEqDiff, Nat.reduceBEq, Nat.reduceLeDiff, Int.reduceToNat, Int.reduceLT, Int.reduceLE, Int.reduceEq, reduceCtorEq, ↓reduceIte, E78_1, X78_1, k78_1b, a1_h.1]
  cases b13 : (ltI s12 p1 : Bool)
  · replace h := br_f b13 h
    cases h
    simp -implicitDefEqProofs only [go_sem, Nat.reduceLT, Nat.reduceAdd, Nat.reduceSub, Nat.reduceMul, Nat.reduceEqDiff, Nat.reduceBEq, Nat.reduceLeDiff, Int.reduceToNat, Int.reduceLT, Int.reduceLE, Int.reduceEq, reduceCtorEq, ↓reduceIte, E78_1, X78_1, k78_1b, a1_h.1, b13]
  · replace h := br_t b13 h
    obtain ⟨x14, q15, h⟩ := bnd_some h
    obtain ⟨g16, g17, g18⟩ := idx_row encInt q15
    try simp -implicitDefEqProofs only [go_sem, Nat.reduceLT, Nat.reduceAdd, Nat.reduceSub, Nat.reduceMul, Nat.reduceEqDiff, Nat.reduceBEq, Nat.reduceLeDiff, Int.reduceToNat, Int.reduceLT, Int.reduceLE, Int.reduceEq, reduceCtorEq, ↓reduceIte] at g17
    try simp -implicitDefEqProofs only [go_sem, Nat.reduceLT, Nat.reduceAdd, Nat.reduceSub, Nat.reduceMul, Nat.reduceEqDiff, Nat.reduceBEq, Nat.reduceLeDiff, Int.reduceToNat, Int.reduceLT, Int.reduceLE, Int.reduceEq, reduceCtorEq, ↓reduceIte] at g18
    obtain ⟨r19, q20, h⟩ := bnd_some h
    have w21 := a1_h.2 x14 r19 q20
    try simp -implicitDefEqProofs only [go_sem, Nat.reduceLT, Nat.reduceAdd, Nat.reduceSub, Nat.reduceMul, Nat.reduceEqDiff, Nat.reduceBEq, Nat.reduceLeDiff, Int.reduceToNat, Int.reduceLT, Int.reduceLE, Int.reduceEq, reduceCtorEq, ↓reduceIte] at w21
    try simp -implicitDefEqProofs only [go_sem, Nat.reduceLT, Nat.reduceAdd, Nat.reduceSub, Nat.reduceMul, Nat.reduceEqDiff, Nat.reduceBEq, Nat.reduceLeDiff, Int.reduceToNat, Int.reduceLT, Int.reduceLE, Int.reduceEq, reduceCtorEq, ↓reduceIte, E78_1, X78_1, k78_1b, a1_h.1, b13, g16, g17, g18, w21.1, w21.2]
    cases b22 : (r19 : Bool)
    · replace h := br_f b22 h
      cases h
      simp -implicitDefEqProofs only [go_sem, Nat.reduceLT, Nat.reduceAdd, Nat.reduceSub, Nat.reduceMul, Nat.reduceEqDiff, Nat.reduceBEq, Nat.reduceLeDiff, Int.reduceToNat, Int.reduceLT, Int.reduceLE, Int.reduceEq, reduceCtorEq, ↓reduceIte, E78_1, X78_1, k78_1b, a1_h.1, b13, g16, g17, g18, w21.1, w21.2, b22]
    · replace h := br_t b22 h
      cases h
      simp -implicitDefEqProofs only [go_sem, Nat.reduceLT, Nat.reduceAdd, Nat.reduceSub, Nat.reduceMul, Nat.reduceEqDiff, Nat.reduceBEq, Nat.reduceLeDiff, Int.reduceToNat, Int.reduceLT, Int.reduceLE, Int.reduceEq, reduceCtorEq, ↓reduceIte, E78_1, X78_1, k78_1b, a1_h.1, b13, g16, g17, g18, w21.1, w21.2, b22]
theorem e78_1 (a0 : (List Int)) (p1 : Int) (a1 : (Int → Option Bool)) (a1_f : Nat) (a1_c : List AV) (a1_h : ((∀ S, mapO (lendPtr S) a1_c = some a1_c) ∧ (∀ n0 src R tm t c, tdL n0 src R tm t c a1_c = some a1_c)) ∧ ∀ y0 r, a1 y0 = some r → (∀ S, evCall T (evFL T) a1_f ([.int .i64 y0] ++ a1_c) S = some (.bool r, S)) ∧ (∀ S, evCallFz T (evFL T) a1_f ([.int .i64 y0] ++ a1_c) S = some (.bool r, S))) (s : Int) (o : (Unit ⊕ Int)) (h : loopP (m78_1b a0 p1 a1) s = some o) : evCL T 0 (.loop k78_1b) (E78_1 a1_f a1_c a0 p1 a1 s).1 (E78_1 a1_f a1_c a0 p1 a1 s).2 = some (X78_1 a1_f a1_c a0 p1 a1 o) :=
  loop_walk (E := E78_1 a1_f a1_c a0 p1 a1) (X := X78_1 a1_f a1_c a0 p1 a1) (by intro b; rcases b with b | b <;> (simp only [X78_1]; nofun)) (b78_1 a0 p1 a1 a1_f a1_c a1_h) s o h
theorem e78 (a0 : (List Int)) (a1 : (Int → Option Bool)) (a1_f : Nat) (a1_c : List AV) (a1_h : ((∀ S, mapO (lendPtr S) a1_c = some a1_c) ∧ (∀ n0 src R tm t c, tdL n0 src R tm t c a1_c = some a1_c)) ∧ ∀ y0 r, a1 y0 = some r → (∀ S, evCall T (evFL T) a1_f ([.int .i64 y0] ++ a1_c) S = some (.bool r, S)) ∧ (∀ S, evCallFz T (evFL T) a1_f ([.int .i64 y0] ++ a1_c) S = some (.bool r, S))) (r : Int) (h : m78 a0 a1 = some r) : evFL T 78 [.ts .imm 1 (a0.map encInt), .fn a1_f a1_c] [] = some (.int .i64 r, []) := by
  unfold m78 at h
  rw [evFL_at fn78 (Nat.le_of_ble_eq_true rfl) rfl (.inr rfl) ⟨rfl, rfl⟩]
  try simp -implicitDefEqProofs only [go_sem, Nat.reduceLT, Nat.reduceAdd, Nat.reduceSub, Nat.reduceMul, Nat.reduceEqDiff, Nat.reduceBEq, Nat.reduceLeDiff, Int.reduceToNat, Int.reduceLT, Int.reduceLE, Int.reduceEq, reduceCtorEq, ↓reduceIte, i78, c78, a1_h.1]
  obtain ⟨o, q23, h⟩ := bnd_some h
  rcases o with ⟨⟩ | v25
  · replace h := selS_l h
    have w24 := e78_1 a0 (↑a0.length : Int) a1 a1_f a1_c a1_h 0 (.inl ()) q23
    simp only [E78_1, X78_1] at w24
    try simp -implicitDefEqProofs only [go_sem, Nat.reduceLT, Nat.reduceAdd, Nat.reduceSub, Nat.reduceMul, Nat.reduceEqDiff, Nat.reduceBEq, Nat.reduceLeDiff, Int.reduceToNat, Int.reduceLT, Int.reduceLE, Int.reduceEq, reduceCtorEq, ↓reduceIte] at w24
    cases h
    simp -implicitDefEqProofs only [go_sem, Nat.reduceLT, Nat.reduceAdd, Nat.reduceSub, Nat.reduceMul, Nat.reduceEqDiff, Nat.reduceBEq, Nat.reduceLeDiff, Int.reduceToNat, Int.reduceLT, Int.reduceLE, Int.reduceEq, reduceCtorEq, ↓reduceIte, i78, c78, a1_h.1, w24]
  · replace h := selS_r h
    have w24 := e78_1 a0 (↑a0.length : Int) a1 a1_f a1_c a1_h 0 (.inr v25) q23
    simp only [E78_1, X78_1] at w24
    try simp -implicitDefEqProofs only [go_sem, Nat.reduceLT, Nat.reduceAdd, Nat.reduceSub, Nat.reduceMul, Nat.reduceEqDiff, Nat.reduceBEq, Nat.reduceLeDiff, Int.reduceToNat, Int.reduceLT, Int.reduceLE, Int.reduceEq, reduceCtorEq, ↓reduceIte] at w24
    cases h
    simp -implicitDefEqProofs only [go_sem, Nat.reduceLT, Nat.reduceAdd, Nat.reduceSub, Nat.reduceMul, Nat.reduceEqDiff, Nat.reduceBEq, Nat.reduceLeDiff, Int.reduceToNat, Int.reduceLT, Int.reduceLE, Int.reduceEq, reduceCtorEq, ↓reduceIte, i78, c78, a1_h.1, w24]
-- f52 slices.ContainsFunc[[]int,int]
theorem call52 (args : List AV) (S : St) : evCall T (evFL T) 52 args S = lendC (evFL T 52) S (lendAll S [[1], [0]] args) := evCall0 fn52 rfl rfl rfl args S
theorem callz52 (args : List AV) (S : St) : evCallFz T (evFL T) 52 args S = lendZ (evFL T 52) S [[0]] (lendAll S [[1], [0]] args) := evCallFz0 fn52 rfl rfl rfl args S
theorem calls52 (args : List AV) (S : St) : evCall (T.at true) (evFL T) 52 args S = lendC (evFL T 52) S (lendAll S [[1], [0]] args) := evCall0 fns52 rfl rfl rfl args S
theorem callsz52 (args : List AV) (S : St) : evCallFz (T.at true) (evFL T) 52 args S = lendZ (evFL T 52) S [[0]] (lendAll S [[1], [0]] args) := evCallFz0 fns52 rfl rfl rfl args S
attribute [go_sem] call52 callz52 calls52 callsz52
theorem e52 (a0 : (List Int)) (a1 : (Int → Option Bool)) (a1_f : Nat) (a1_c : List AV) (a1_h : ((∀ S, mapO (lendPtr S) a1_c = some a1_c) ∧ (∀ n0 src R tm t c, tdL n0 src R tm t c a1_c = some a1_c)) ∧ ∀ y0 r, a1 y0 = some r → (∀ S, evCall T (evFL T) a1_f ([.int .i64 y0] ++ a1_c) S = some (.bool r, S)) ∧ (∀ S, evCallFz T (evFL T) a1_f ([.int .i64 y0] ++ a1_c) S = some (.bool r, S))) (r : Bool) (h : m52 a0 a1 = some r) : evFL T 52 [.ts .imm 1 (a0.map encInt), .fn a1_f a1_c] [] = some (.bool r, []) := by
  unfold m52 at h
  rw [evFL_at fn52 (Nat.le_of_ble_eq_true rfl) rfl (.inr rfl) ⟨rfl, rfl⟩]
  obtain ⟨r3, q1, h⟩ := bnd_some h
  have w2 := e78 a0 a1 a1_f a1_c a1_h r3 q1
  try simp -implicitDefEqProofs only [go_sem, Nat.reduceLT, Nat.reduceAdd, Nat.reduceSub, Nat.reduceMul, Nat.reduceEqDiff, Nat.reduceBEq, Nat.reduceLeDiff, Int.reduceToNat, Int.reduceLT, Int.reduceLE, Int.reduceEq, reduceCtorEq, ↓reduceIte] at w2
  cases h
  simp -implicitDefEqProofs only [go_sem, Nat.reduceLT, Nat.reduceAdd, Nat.reduceSub, Nat.reduceMul, Nat.reduceEqDiff, Nat.reduceBEq, Nat.reduceLeDiff, Int.reduceToNat, Int.reduceLT, Int.reduceLE, Int.reduceEq, reduceCtorEq, ↓reduceIte, i52, c52, a1_h.1, w2]
-- f53 impl.GoodAlgebra$1$1
theorem call53 (args : List AV) (S : St) : evCall T (evFL T) 53 args S = lendC (evFL T 53) S (lendAll S [[0], [0]] args) := evCall0 fn53 rfl rfl rfl args S
theorem callz53 (args : List AV) (S : St) : evCallFz T (evFL T) 53 args S = lendZ (evFL T 53) S [[0]] (lendAll S [[0], [0]] args) := evCallFz0 fn53 rfl rfl rfl args S
theorem calls53 (args : List AV) (S : St) : evCall (T.at true) (evFL T) 53 args S = lendC (evFL T 53) S (lendAll S [[0], [0]] args) := evCall0 fns53 rfl rfl rfl args S
theorem callsz53 (args : List AV) (S : St) : evCallFz (T.at true) (evFL T) 53 args S = lendZ (evFL T 53) S [[0]] (lendAll S [[0], [0]] args) := evCallFz0 fns53 rfl rfl rfl args S
attribute [go_sem] call53 callz53 calls53 callsz53
theorem e53 (a0 : Int) (a1 : Algebra) (r : Bool) (h : m53 a0 a1 = some r) : evFL T 53 [.int .i64 a0, .tp .imm 2 [[.int .i64 a1.weights, .ts .imm 1 (a1.apply.map (encLInt .imm))]] 0 0] [] = some (.bool r, []) := by
  unfold m53 at h
  rw [evFL_at fn53 (Nat.le_of_ble_eq_true rfl) rfl (.inr rfl) ⟨rfl, rfl⟩]
  obtain ⟨r3, q1, h⟩ := bnd_some h
  have w2 := e51 a1 r3 q1
  try simp -implicitDefEqProofs only [go_sem, Nat.reduceLT, Nat.reduceAdd, Nat.reduceSub, Nat.reduceMul, Nat.reduceEqDiff, Nat.reduceBEq, Nat.reduceLeDiff, Int.reduceToNat, Int.reduceLT, Int.reduceLE, Int.reduceEq, reduceCtorEq, ↓reduceIte] at w2
  obtain ⟨r6, q4, h⟩ := bnd_some h
  have w5 := e48 a0 0 r3 r6 q4
  try simp -implicitDefEqProofs only [go_sem, Nat.reduceLT, Nat.reduceAdd, Nat.reduceSub, Nat.reduceMul, Nat.reduceEqDiff, Nat.reduceBEq, Nat.reduceLeDiff, Int.reduceToNat, Int.reduceLT, Int.reduceLE, Int.reduceEq, reduceCtorEq, ↓reduceIte] at w5
  cases h
  simp -implicitDefEqProofs only [go_sem, Nat.reduceLT, Nat.reduceAdd, Nat.reduceSub, Nat.reduceMul, Nat.reduceEqDiff, Nat.reduceBEq, Nat.reduceLeDiff, Int.reduceToNat, Int.reduceLT, Int.reduceLE, Int.reduceEq, reduceCtorEq, ↓reduceIte, i53, c53, w2, w5]
end Go.Pi.Ytbohlpligkfkiaa.BestTo
