/- What functions of the program answer, and that the law answers true at every input; no condition -/
import Derived.Test.YtbohlpligkfkiaaLexOfTabLexOf
import Derived.Test.YtbohlpligkfkiaaLexOfModLexOf
set_option linter.all false
/- Functions of the program: that the code answers as the plain functions do. -/
namespace Go.Pi.Ytbohlpligkfkiaa.LexOf
open Go Go.Proofs Go.Pi
set_option maxRecDepth 100000
set_option linter.all false
noncomputable def encInt (x : Int) : List AV := [.int .i64 x]
attribute [go_sem] encInt
theorem sq_encInt (q : Ql) (x : Int) : setQL q (encInt x) = encInt x := by simp [encInt]
theorem sqm_encInt (q : Ql) (xs : List Int) : setQLL q (xs.map encInt) = xs.map encInt := by rw [setQLL_map]; exact List.map_congr_left (fun x _ => sq_encInt q x)
theorem ow_encInt (x : Int) : ownOnlyL (encInt x) = true := by simp [encInt, ownOnlyL, ownOnly, ownLL_map]
theorem owm_encInt (xs : List Int) : ownOnlyLL (xs.map encInt) = true := ownLL_map _ ow_encInt xs
theorem fi_encInt (x : Int) : fine.fineL (encInt x) = true := by simp [encInt, fine.fineL, fine, fineLL_map]
theorem fim_encInt (xs : List Int) : fine.fineLL (xs.map encInt) = true := fineLL_map _ fi_encInt xs
theorem nu_encInt (x : Int) : nude.nudeL (encInt x) = true := by simp [encInt, nude.nudeL, nude, nudeLL_map]
theorem num_encInt (xs : List Int) : nude.nudeLL (xs.map encInt) = true := nudeLL_map _ nu_encInt xs
theorem st_encInt (q : Ql) (xs : List Int) : (xs.map encInt).map (fun x => x.map (setTop q)) = xs.map encInt := by rw [List.map_map]; rfl
attribute [go_sem] st_encInt
attribute [simp] sqm_encInt ow_encInt owm_encInt fi_encInt fim_encInt nu_encInt num_encInt
attribute [go_sem] sqm_encInt owm_encInt fim_encInt num_encInt
noncomputable def encLInt (q : Ql) (x : (List Int)) : List AV := [.ts q 1 (x.map encInt)]
attribute [go_sem] encLInt
theorem sq_encLInt (q q1 : Ql) (x : (List Int)) : setQL q (encLInt q1 x) = encLInt q x := by simp [encLInt, sq_encInt]
theorem sqm_encLInt (q q1 : Ql) (xs : List (List Int)) : setQLL q (xs.map (encLInt q1)) = xs.map (encLInt q) := by rw [setQLL_map]; exact List.map_congr_left (fun x _ => sq_encLInt q q1 x)
theorem ow_encLInt (x : (List Int)) : ownOnlyL (encLInt .own x) = true := by simp [encLInt, ownOnlyL, ownOnly, ownLL_map]
theorem owm_encLInt (xs : List (List Int)) : ownOnlyLL (xs.map (encLInt .own)) = true := ownLL_map _ ow_encLInt xs
theorem fi_encLInt (x : (List Int)) : fine.fineL (encLInt .own x) = true := by simp [encLInt, fine.fineL, fine, fineLL_map]
theorem fim_encLInt (xs : List (List Int)) : fine.fineLL (xs.map (encLInt .own)) = true := fineLL_map _ fi_encLInt xs
theorem nu_encLInt (x : (List Int)) : nude.nudeL (encLInt .own x) = true := by simp [encLInt, nude.nudeL, nude, nudeLL_map]
theorem num_encLInt (xs : List (List Int)) : nude.nudeLL (xs.map (encLInt .own)) = true := nudeLL_map _ nu_encLInt xs
theorem st_encLInt (q q1 : Ql) (xs : List (List Int)) : (xs.map (encLInt q1)).map (fun x => x.map (setTop q)) = xs.map (encLInt q) := by rw [List.map_map]; rfl
attribute [go_sem] st_encLInt
attribute [simp] sqm_encLInt ow_encLInt owm_encLInt fi_encLInt fim_encLInt nu_encLInt num_encLInt
attribute [go_sem] sqm_encLInt owm_encLInt fim_encLInt num_encLInt
noncomputable def encLLInt (q : Ql) (x : (List (List Int))) : List AV := [.ts q 1 (x.map (encLInt q))]
attribute [go_sem] encLLInt
theorem sq_encLLInt (q q1 : Ql) (x : (List (List Int))) : setQL q (encLLInt q1 x) = encLLInt q x := by simp [encLLInt, sq_encLInt]
theorem sqm_encLLInt (q q1 : Ql) (xs : List (List (List Int))) : setQLL q (xs.map (encLLInt q1)) = xs.map (encLLInt q) := by rw [setQLL_map]; exact List.map_congr_left (fun x _ => sq_encLLInt q q1 x)
theorem ow_encLLInt (x : (List (List Int))) : ownOnlyL (encLLInt .own x) = true := by simp [encLLInt, ownOnlyL, ownOnly, ownLL_map]
theorem owm_encLLInt (xs : List (List (List Int))) : ownOnlyLL (xs.map (encLLInt .own)) = true := ownLL_map _ ow_encLLInt xs
theorem fi_encLLInt (x : (List (List Int))) : fine.fineL (encLLInt .own x) = true := by simp [encLLInt, fine.fineL, fine, fineLL_map]
theorem fim_encLLInt (xs : List (List (List Int))) : fine.fineLL (xs.map (encLLInt .own)) = true := fineLL_map _ fi_encLLInt xs
theorem nu_encLLInt (x : (List (List Int))) : nude.nudeL (encLLInt .own x) = true := by simp [encLLInt, nude.nudeL, nude, nudeLL_map]
theorem num_encLLInt (xs : List (List (List Int))) : nude.nudeLL (xs.map (encLLInt .own)) = true := nudeLL_map _ nu_encLLInt xs
attribute [simp] sqm_encLLInt ow_encLLInt owm_encLLInt fi_encLLInt fim_encLLInt nu_encLLInt num_encLLInt
attribute [go_sem] sqm_encLLInt owm_encLLInt fim_encLLInt num_encLLInt
noncomputable def encAlgebra (q : Ql) (x : Algebra) : List AV := [.int .i64 x.weights, .ts q 1 (x.apply.map (encLInt q))]
attribute [go_sem] encAlgebra
theorem sq_encAlgebra (q q1 : Ql) (x : Algebra) : setQL q (encAlgebra q1 x) = encAlgebra q x := by simp [encAlgebra, sq_encLInt]
theorem sqm_encAlgebra (q q1 : Ql) (xs : List Algebra) : setQLL q (xs.map (encAlgebra q1)) = xs.map (encAlgebra q) := by rw [setQLL_map]; exact List.map_congr_left (fun x _ => sq_encAlgebra q q1 x)
theorem ow_encAlgebra (x : Algebra) : ownOnlyL (encAlgebra .own x) = true := by simp [encAlgebra, ownOnlyL, ownOnly, ownLL_map]
theorem owm_encAlgebra (xs : List Algebra) : ownOnlyLL (xs.map (encAlgebra .own)) = true := ownLL_map _ ow_encAlgebra xs
theorem fi_encAlgebra (x : Algebra) : fine.fineL (encAlgebra .own x) = true := by simp [encAlgebra, fine.fineL, fine, fineLL_map]
theorem fim_encAlgebra (xs : List Algebra) : fine.fineLL (xs.map (encAlgebra .own)) = true := fineLL_map _ fi_encAlgebra xs
theorem nu_encAlgebra (x : Algebra) : nude.nudeL (encAlgebra .own x) = true := by simp [encAlgebra, nude.nudeL, nude, nudeLL_map]
theorem num_encAlgebra (xs : List Algebra) : nude.nudeLL (xs.map (encAlgebra .own)) = true := nudeLL_map _ nu_encAlgebra xs
attribute [simp] sqm_encAlgebra ow_encAlgebra owm_encAlgebra fi_encAlgebra fim_encAlgebra nu_encAlgebra num_encAlgebra
attribute [go_sem] sqm_encAlgebra owm_encAlgebra fim_encAlgebra num_encAlgebra
noncomputable def encBool (x : Bool) : List AV := [.bool x]
attribute [go_sem] encBool
theorem sq_encBool (q : Ql) (x : Bool) : setQL q (encBool x) = encBool x := by simp [encBool]
theorem sqm_encBool (q : Ql) (xs : List Bool) : setQLL q (xs.map encBool) = xs.map encBool := by rw [setQLL_map]; exact List.map_congr_left (fun x _ => sq_encBool q x)
theorem ow_encBool (x : Bool) : ownOnlyL (encBool x) = true := by simp [encBool, ownOnlyL, ownOnly, ownLL_map]
theorem owm_encBool (xs : List Bool) : ownOnlyLL (xs.map encBool) = true := ownLL_map _ ow_encBool xs
theorem fi_encBool (x : Bool) : fine.fineL (encBool x) = true := by simp [encBool, fine.fineL, fine, fineLL_map]
theorem fim_encBool (xs : List Bool) : fine.fineLL (xs.map encBool) = true := fineLL_map _ fi_encBool xs
theorem nu_encBool (x : Bool) : nude.nudeL (encBool x) = true := by simp [encBool, nude.nudeL, nude, nudeLL_map]
theorem num_encBool (xs : List Bool) : nude.nudeLL (xs.map encBool) = true := nudeLL_map _ nu_encBool xs
theorem st_encBool (q : Ql) (xs : List Bool) : (xs.map encBool).map (fun x => x.map (setTop q)) = xs.map encBool := by rw [List.map_map]; rfl
attribute [go_sem] st_encBool
attribute [simp] sqm_encBool ow_encBool owm_encBool fi_encBool fim_encBool nu_encBool num_encBool
attribute [go_sem] sqm_encBool owm_encBool fim_encBool num_encBool
-- f76 laws.szIntS
theorem call76 (args : List AV) (S : St) : evCall T (evFL T) 76 args S = lendC (evFL T 76) S (lendAll S [[1], [0]] args) := evCall0 fn76 rfl rfl rfl args S
theorem callz76 (args : List AV) (S : St) : evCallFz T (evFL T) 76 args S = lendZ (evFL T 76) S [[0]] (lendAll S [[1], [0]] args) := evCallFz0 fn76 rfl rfl rfl args S
theorem calls76 (args : List AV) (S : St) : evCall (T.at true) (evFL T) 76 args S = lendC (evFL T 76) S (lendAll S [[1], [0]] args) := evCall0 fns76 rfl rfl rfl args S
theorem callsz76 (args : List AV) (S : St) : evCallFz (T.at true) (evFL T) 76 args S = lendZ (evFL T 76) S [[0]] (lendAll S [[1], [0]] args) := evCallFz0 fns76 rfl rfl rfl args S
attribute [go_sem] call76 callz76 calls76 callsz76
theorem e76 (a0 : (List Int)) (a1 : Int) (r : Int) (h : m76 a0 a1 = some r) : evFL T 76 [.ts .imm 1 (a0.map encInt), .int .i64 a1] [] = some (.int .i64 r, []) := by
  unfold m76 at h
  rw [evFL_at fn76 (Nat.le_of_ble_eq_true rfl) rfl (.inr rfl) ⟨rfl, rfl⟩]
  try simp -implicitDefEqProofs only [go_sem, Nat.reduceLT, Nat.reduceAdd, Nat.reduceSub, Nat.reduceMul, Nat.reduceEqDiff, Nat.reduceBEq, Nat.reduceLeDiff, Int.reduceToNat, Int.reduceLT, Int.reduceLE, Int.reduceEq, reduceCtorEq, ↓reduceIte, i76, c76]
  cases b1 : (ltI (wsub .i64 a1 (↑a0.length : Int)) 0 : Bool)
  · replace h := br_f b1 h
    cases h
    simp -implicitDefEqProofs only [go_sem, Nat.reduceLT, Nat.reduceAdd, Nat.reduceSub, Nat.reduceMul, Nat.reduceEqDiff, Nat.reduceBEq, Nat.reduceLeDiff, Int.reduceToNat, Int.reduceLT, Int.reduceLE, Int.reduceEq, reduceCtorEq, ↓reduceIte, i76, c76, b1]
  · replace h := br_t b1 h
    cases h
    simp -implicitDefEqProofs only [go_sem, Nat.reduceLT, Nat.reduceAdd, Nat.reduceSub, Nat.reduceMul, Nat.reduceEqDiff, Nat.reduceBEq, Nat.reduceLeDiff, Int.reduceToNat, Int.reduceLT, Int.reduceLE, Int.reduceEq, reduceCtorEq, ↓reduceIte, i76, c76, b1]
-- f44 laws.szIntSS
theorem call44 (args : List AV) (S : St) : evCall T (evFL T) 44 args S = lendC (evFL T 44) S (lendAll S [[1], [0]] args) := evCall0 fn44 rfl rfl rfl args S
theorem callz44 (args : List AV) (S : St) : evCallFz T (evFL T) 44 args S = lendZ (evFL T 44) S [[0]] (lendAll S [[1], [0]] args) := evCallFz0 fn44 rfl rfl rfl args S
theorem calls44 (args : List AV) (S : St) : evCall (T.at true) (evFL T) 44 args S = lendC (evFL T 44) S (lendAll S [[1], [0]] args) := evCall0 fns44 rfl rfl rfl args S
theorem callsz44 (args : List AV) (S : St) : evCallFz (T.at true) (evFL T) 44 args S = lendZ (evFL T 44) S [[0]] (lendAll S [[1], [0]] args) := evCallFz0 fns44 rfl rfl rfl args S
attribute [go_sem] call44 callz44 calls44 callsz44
noncomputable def X44_1 (a0 : (List (List Int))) (o : (Int ⊕ Unit)) : Ex × Fr × St :=
  match o with
  | .inl o => (.exit 0, frOf 27 (upd anyF 1 (.int .i64 o)), [])
  | .inr o => (.ret, frOf 27 (upd anyF 4 (.int .i64 (-1))), [])
noncomputable def E44_1 (a0 : (List (List Int))) (s : (Int × Int)) : Fr × St := (frOf 27 (upd (upd (upd anyF 0 (.ts .imm 1 (a0.map (encLInt .imm)))) 1 (.int .i64 s.1)) 5 (.int .i64 s.2)), [])
theorem b44_1 (a0 : (List (List Int))) (s : (Int × Int)) (o : Ctl (Int × Int) (Int ⊕ Unit)) (h : m44_1b a0 s = some o) : evCL T 0 k44_1b (E44_1 a0 s).1 (E44_1 a0 s).2 = some (ctlX (E44_1 a0) (X44_1 a0) o) := by
  unfold m44_1b at h
  obtain ⟨s13, s14⟩ := s
  replace h := sel2_some h
  try simp -implicitDefEqProofs only [go_sem, Nat.reduceLT, Nat.reduceAdd, Nat.reduceSub, Nat.reduceMul, Nat.reduceEqDiff, Nat.reduceBEq, Nat.reduceLeDiff, Int.reduceToNat, Int.reduceLT, Int.reduceLE, Int.reduceEq, reduceCtorEq, ↓reduceIte, E44_1, X44_1, k44_1b]
  cases b15 : (ltI s14 (↑a0.length : Int) : Bool)
  · replace h := br_f b15 h
    cases h
    simp -implicitDefEqProofs only [go_sem, Nat.reduceLT, Nat.reduceAdd, Nat.reduceSub, Nat.reduceMul, Nat.reduceEqDiff, Nat.reduceBEq, Nat.reduceLeDiff, Int.reduceToNat, Int.reduceLT, Int.reduceLE, Int.reduceEq, reduceCtorEq, ↓reduceIte, E44_1, X44_1, k44_1b, b15]
  · replace h := br_t b15 h
    obtain ⟨x16, q17, h⟩ := bnd_some h
    obtain ⟨g18, g19, g20⟩ := idx_row (encLInt .imm) q17
    try simp -implicitDefEqProofs only [go_sem, Nat.reduceLT, Nat.reduceAdd, Nat.reduceSub, Nat.reduceMul, Nat.reduceEqDiff, Nat.reduceBEq, Nat.reduceLeDiff, Int.reduceToNat, Int.reduceLT, Int.reduceLE, Int.reduceEq, reduceCtorEq, ↓reduceIte] at g19
    try simp -implicitDefEqProofs only [go_sem, Nat.reduceLT, Nat.reduceAdd, Nat.reduceSub, Nat.reduceMul, Nat.reduceEqDiff, Nat.reduceBEq, Nat.reduceLeDiff, Int.reduceToNat, Int.reduceLT, Int.reduceLE, Int.reduceEq, reduceCtorEq, ↓reduceIte] at g20
    obtain ⟨r23, q21, h⟩ := bnd_some h
    have w22 := e76 x16 s13 r23 q21
    try simp -implicitDefEqProofs only [go_sem, Nat.reduceLT, Nat.reduceAdd, Nat.reduceSub, Nat.reduceMul, Nat.reduceEqDiff, Nat.reduceBEq, Nat.reduceLeDiff, Int.reduceToNat, Int.reduceLT, Int.reduceLE, Int.reduceEq, reduceCtorEq, ↓reduceIte] at w22
    try simp -implicitDefEqProofs only [go_sem, Nat.reduceLT, Nat.reduceAdd, Nat.reduceSub, Nat.reduceMul, Nat.reduceEqDiff, Nat.reduceBEq, Nat.reduceLeDiff, Int.reduceToNat, Int.reduceLT, Int.reduceLE, Int.reduceEq, reduceCtorEq, ↓reduceIte, E44_1, X44_1, k44_1b, b15, g18, g19, g20, w22]
    cases b24 : (ltI r23 0 : Bool)
    · replace h := br_f b24 h
      cases h
      simp -implicitDefEqProofs only [go_sem, Nat.reduceLT, Nat.reduceAdd, Nat.reduceSub, Nat.reduceMul, Nat.reduceEqDiff, Nat.reduceBEq, Nat.reduceLeDiff, Int.reduceToNat, Int.reduceLT, Int.reduceLE, Int.reduceEq, reduceCtorEq, ↓reduceIte, E44_1, X44_1, k44_1b, b15, g18, g19, g20, w22, b24]
    · replace h := br_t b24 h
      cases h
      simp -implicitDefEqProofs only [go_sem, Nat.reduceLT, Nat.reduceAdd, Nat.reduceSub, Nat.reduceMul, Nat.reduceEqDiff, Nat.reduceBEq, Nat.reduceLeDiff, Int.reduceToNat, Int.reduceLT, Int.reduceLE, Int.reduceEq, reduceCtorEq, ↓reduceIte, E44_1, X44_1, k44_1b, b15, g18, g19, g20, w22, b24]
theorem e44_1 (a0 : (List (List Int))) (s : (Int × Int)) (o : (Int ⊕ Unit)) (h : loopP (m44_1b a0) s = some o) : evCL T 0 (.loop k44_1b) (E44_1 a0 s).1 (E44_1 a0 s).2 = some (X44_1 a0 o) :=
  loop_walk (E := E44_1 a0) (X := X44_1 a0) (by intro b; rcases b with b | b <;> (simp only [X44_1]; nofun)) (b44_1 a0) s o h
theorem e44 (a0 : (List (List Int))) (a1 : Int) (r : Int) (h : m44 a0 a1 = some r) : evFL T 44 [.ts .imm 1 (a0.map (encLInt .imm)), .int .i64 a1] [] = some (.int .i64 r, []) := by
  unfold m44 at h
  rw [evFL_at fn44 (Nat.le_of_ble_eq_true rfl) rfl (.inr rfl) ⟨rfl, rfl⟩]
  try simp -implicitDefEqProofs only [go_sem, Nat.reduceLT, Nat.reduceAdd, Nat.reduceSub, Nat.reduceMul, Nat.reduceEqDiff, Nat.reduceBEq, Nat.reduceLeDiff, Int.reduceToNat, Int.reduceLT, Int.reduceLE, Int.reduceEq, reduceCtorEq, ↓reduceIte, i44, c44]
  cases b1 : (ltI (wsub .i64 a1 (↑a0.length : Int)) 0 : Bool)
  · replace h := br_f b1 h
    try simp -implicitDefEqProofs only [go_sem, Nat.reduceLT, Nat.reduceAdd, Nat.reduceSub, Nat.reduceMul, Nat.reduceEqDiff, Nat.reduceBEq, Nat.reduceLeDiff, Int.reduceToNat, Int.reduceLT, Int.reduceLE, Int.reduceEq, reduceCtorEq, ↓reduceIte, i44, c44, b1]
    obtain ⟨o, q25, h⟩ := bnd_some h
    rcases o with v27 | ⟨⟩
    · replace h := selS_l h
      have w26 := e44_1 a0 (wsub .i64 a1 (↑a0.length : Int), 0) (.inl v27) q25
      simp only [E44_1, X44_1] at w26
      try simp -implicitDefEqProofs only [go_sem, Nat.reduceLT, Nat.reduceAdd, Nat.reduceSub, Nat.reduceMul, Nat.reduceEqDiff, Nat.reduceBEq, Nat.reduceLeDiff, Int.reduceToNat, Int.reduceLT, Int.reduceLE, Int.reduceEq, reduceCtorEq, ↓reduceIte] at w26
      cases h
      simp -implicitDefEqProofs only [go_sem, Nat.reduceLT, Nat.reduceAdd, Nat.reduceSub, Nat.reduceMul, Nat.reduceEqDiff, Nat.reduceBEq, Nat.reduceLeDiff, Int.reduceToNat, Int.reduceLT, Int.reduceLE, Int.reduceEq, reduceCtorEq, ↓reduceIte, i44, c44, b1, w26]
    · replace h := selS_r h
      have w26 := e44_1 a0 (wsub .i64 a1 (↑a0.length : Int), 0) (.inr ()) q25
      simp only [E44_1, X44_1] at w26
      try simp -implicitDefEqProofs only [go_sem, Nat.reduceLT, Nat.reduceAdd, Nat.reduceSub, Nat.reduceMul, Nat.reduceEqDiff, Nat.reduceBEq, Nat.reduceLeDiff, Int.reduceToNat, Int.reduceLT, Int.reduceLE, Int.reduceEq, reduceCtorEq, ↓reduceIte] at w26
      cases h
      simp -implicitDefEqProofs only [go_sem, Nat.reduceLT, Nat.reduceAdd, Nat.reduceSub, Nat.reduceMul, Nat.reduceEqDiff, Nat.reduceBEq, Nat.reduceLeDiff, Int.reduceToNat, Int.reduceLT, Int.reduceLE, Int.reduceEq, reduceCtorEq, ↓reduceIte, i44, c44, b1, w26]
  · replace h := br_t b1 h
    cases h
    simp -implicitDefEqProofs only [go_sem, Nat.reduceLT, Nat.reduceAdd, Nat.reduceSub, Nat.reduceMul, Nat.reduceEqDiff, Nat.reduceBEq, Nat.reduceLeDiff, Int.reduceToNat, Int.reduceLT, Int.reduceLE, Int.reduceEq, reduceCtorEq, ↓reduceIte, i44, c44, b1]
-- f12 laws.szAlgebra
theorem call12 (args : List AV) (S : St) : evCall T (evFL T) 12 args S = lendC (evFL T 12) S (lendAll S [[0, 1], [0]] args) := evCall0 fn12 rfl rfl rfl args S
theorem callz12 (args : List AV) (S : St) : evCallFz T (evFL T) 12 args S = lendZ (evFL T 12) S [[0]] (lendAll S [[0, 1], [0]] args) := evCallFz0 fn12 rfl rfl rfl args S
theorem calls12 (args : List AV) (S : St) : evCall (T.at true) (evFL T) 12 args S = lendC (evFL T 12) S (lendAll S [[0, 1], [0]] args) := evCall0 fns12 rfl rfl rfl args S
theorem callsz12 (args : List AV) (S : St) : evCallFz (T.at true) (evFL T) 12 args S = lendZ (evFL T 12) S [[0]] (lendAll S [[0, 1], [0]] args) := evCallFz0 fns12 rfl rfl rfl args S
attribute [go_sem] call12 callz12 calls12 callsz12
theorem e12 (a0 : Algebra) (a1 : Int) (r : Int) (h : m12 a0 a1 = some r) : evFL T 12 [.agg [.int .i64 a0.weights, .ts .imm 1 (a0.apply.map (encLInt .imm))], .int .i64 a1] [] = some (.int .i64 r, []) := by
  unfold m12 at h
  rw [evFL_at fn12 (Nat.le_of_ble_eq_true rfl) rfl (.inr rfl) ⟨rfl, rfl⟩]
  obtain ⟨r3, q1, h⟩ := bnd_some h
  have w2 := e44 a0.apply a1 r3 q1
  try simp -implicitDefEqProofs only [go_sem, Nat.reduceLT, Nat.reduceAdd, Nat.reduceSub, Nat.reduceMul, Nat.reduceEqDiff, Nat.reduceBEq, Nat.reduceLeDiff, Int.reduceToNat, Int.reduceLT, Int.reduceLE, Int.reduceEq, reduceCtorEq, ↓reduceIte] at w2
  try simp -implicitDefEqProofs only [go_sem, Nat.reduceLT, Nat.reduceAdd, Nat.reduceSub, Nat.reduceMul, Nat.reduceEqDiff, Nat.reduceBEq, Nat.reduceLeDiff, Int.reduceToNat, Int.reduceLT, Int.reduceLE, Int.reduceEq, reduceCtorEq, ↓reduceIte, i12, c12, w2]
  cases b4 : (ltI r3 0 : Bool)
  · replace h := br_f b4 h
    cases h
    simp -implicitDefEqProofs only [go_sem, Nat.reduceLT, Nat.reduceAdd, Nat.reduceSub, Nat.reduceMul, Nat.reduceEqDiff, Nat.reduceBEq, Nat.reduceLeDiff, Int.reduceToNat, Int.reduceLT, Int.reduceLE, Int.reduceEq, reduceCtorEq, ↓reduceIte, i12, c12, w2, b4]
  · replace h := br_t b4 h
    cases h
    simp -implicitDefEqProofs only [go_sem, Nat.reduceLT, Nat.reduceAdd, Nat.reduceSub, Nat.reduceMul, Nat.reduceEqDiff, Nat.reduceBEq, Nat.reduceLeDiff, Int.reduceToNat, Int.reduceLT, Int.reduceLE, Int.reduceEq, reduceCtorEq, ↓reduceIte, i12, c12, w2, b4]
-- f28 laws.toIntS
theorem call28 (args : List AV) (S : St) : evCall T (evFL T) 28 args S = lendC (evFL T 28) S (lendAll S [[1]] args) := evCall0 fn28 rfl rfl rfl args S
theorem callz28 (args : List AV) (S : St) : evCallFz T (evFL T) 28 args S = lendZ (evFL T 28) S [[1]] (lendAll S [[1]] args) := evCallFz0 fn28 rfl rfl rfl args S
theorem calls28 (args : List AV) (S : St) : evCall (T.at true) (evFL T) 28 args S = lendC (evFL T 28) S (lendAll S [[1]] args) := evCall0 fns28 rfl rfl rfl args S
theorem callsz28 (args : List AV) (S : St) : evCallFz (T.at true) (evFL T) 28 args S = lendZ (evFL T 28) S [[1]] (lendAll S [[1]] args) := evCallFz0 fns28 rfl rfl rfl args S
attribute [go_sem] call28 callz28 calls28 callsz28
noncomputable def X28_1 (a0 : (List Int)) (o : (List Int)) : Ex × Fr × St :=
  (.exit 0, frOf 22 (upd anyF 3 (.sl 0 0 o.length)), [some ⟨.arr, 1, o.map encInt⟩])
noncomputable def E28_1 (a0 : (List Int)) (s : (Int × List Int)) : Fr × St := (frOf 22 (upd (upd (upd anyF 0 (.ts .imm 1 (a0.map encInt))) 3 (.sl 0 0 s.2.length)) 4 (.int .i64 s.1)), [some ⟨.arr, 1, s.2.map encInt⟩])
theorem b28_1 (a0 : (List Int)) (s : (Int × List Int)) (o : Ctl (Int × List Int) (List Int)) (h : m28_1b a0 s = some o) : evCL T 0 k28_1b (E28_1 a0 s).1 (E28_1 a0 s).2 = some (ctlX (E28_1 a0) (X28_1 a0) o) := by
  unfold m28_1b at h
  obtain ⟨s14, s15⟩ := s
  replace h := sel2_some h
  try simp -implicitDefEqProofs only [go_sem, Nat.reduceLT, Nat.reduceAdd, Nat.reduceSub, Nat.reduceMul, Nat.reduceEqDiff, Nat.reduceBEq, Nat.reduceLeDiff, Int.reduceToNat, Int.reduceLT, Int.reduceLE, Int.reduceEq, reduceCtorEq, ↓reduceIte, E28_1, X28_1, k28_1b]
  cases b16 : (ltI s14 (↑a0.length : Int) : Bool)
  · replace h := br_f b16 h
    cases h
    simp -implicitDefEqProofs only [go_sem, Nat.reduceLT, Nat.reduceAdd, Nat.reduceSub, Nat.reduceMul, Nat.reduceEqDiff, Nat.reduceBEq, Nat.reduceLeDiff, Int.reduceToNat, Int.reduceLT, Int.reduceLE, Int.reduceEq, reduceCtorEq, ↓reduceIte, E28_1, X28_1, k28_1b, b16]
  · replace h := br_t b16 h
    obtain ⟨x17, q18, h⟩ := bnd_some h
    obtain ⟨g19, g20, g21⟩ := idx_row encInt q18
    try simp -implicitDefEqProofs only [go_sem, Nat.reduceLT, Nat.reduceAdd, Nat.reduceSub, Nat.reduceMul, Nat.reduceEqDiff, Nat.reduceBEq, Nat.reduceLeDiff, Int.reduceToNat, Int.reduceLT, Int.reduceLE, Int.reduceEq, reduceCtorEq, ↓reduceIte] at g20
    try simp -implicitDefEqProofs only [go_sem, Nat.reduceLT, Nat.reduceAdd, Nat.reduceSub, Nat.reduceMul, Nat.reduceEqDiff, Nat.reduceBEq, Nat.reduceLeDiff, Int.reduceToNat, Int.reduceLT, Int.reduceLE, Int.reduceEq, reduceCtorEq, ↓reduceIte] at g21
    obtain ⟨x22, q23, h⟩ := bnd_some h
    obtain ⟨g24, g25, g26⟩ := idx_row encInt q23
    try simp -implicitDefEqProofs only [go_sem, Nat.reduceLT, Nat.reduceAdd, Nat.reduceSub, Nat.reduceMul, Nat.reduceEqDiff, Nat.reduceBEq, Nat.reduceLeDiff, Int.reduceToNat, Int.reduceLT, Int.reduceLE, Int.reduceEq, reduceCtorEq, ↓reduceIte] at g25
    try simp -implicitDefEqProofs only [go_sem, Nat.reduceLT, Nat.reduceAdd, Nat.reduceSub, Nat.reduceMul, Nat.reduceEqDiff, Nat.reduceBEq, Nat.reduceLeDiff, Int.reduceToNat, Int.reduceLT, Int.reduceLE, Int.reduceEq, reduceCtorEq, ↓reduceIte] at g26
    cases h
    simp -implicitDefEqProofs only [go_sem, Nat.reduceLT, Nat.reduceAdd, Nat.reduceSub, Nat.reduceMul, Nat.reduceEqDiff, Nat.reduceBEq, Nat.reduceLeDiff, Int.reduceToNat, Int.reduceLT, Int.reduceLE, Int.reduceEq, reduceCtorEq, ↓reduceIte, E28_1, X28_1, k28_1b, b16, g19, g20, g21, g24, g25, g26]
theorem e28_1 (a0 : (List Int)) (s : (Int × List Int)) (o : (List Int)) (h : loopP (m28_1b a0) s = some o) : evCL T 0 (.loop k28_1b) (E28_1 a0 s).1 (E28_1 a0 s).2 = some (X28_1 a0 o) :=
  loop_walk (E := E28_1 a0) (X := X28_1 a0) (by intro b; (simp only [X28_1]; nofun)) (b28_1 a0) s o h
theorem e28 (a0 : (List Int)) (r : (List Int)) (h : m28 a0 = some r) : evFL T 28 [.ts .imm 1 (a0.map encInt)] [] = some (.sl 0 0 r.length, [some ⟨.arr, 1, r.map encInt⟩]) := by
  unfold m28 at h
  rw [evFL_at fn28 (Nat.le_of_ble_eq_true rfl) rfl (.inr rfl) ⟨rfl, rfl⟩]
  obtain ⟨g1, h⟩ := ck_some h
  try simp -implicitDefEqProofs only [go_sem, Nat.reduceLT, Nat.reduceAdd, Nat.reduceSub, Nat.reduceMul, Nat.reduceEqDiff, Nat.reduceBEq, Nat.reduceLeDiff, Int.reduceToNat, Int.reduceLT, Int.reduceLE, Int.reduceEq, reduceCtorEq, ↓reduceIte] at g1
  obtain ⟨v29, q27, h⟩ := bnd_some h
  have w28 := e28_1 a0 (0, List.replicate a0.length 0) v29 q27
  simp only [E28_1, X28_1] at w28
  try simp -implicitDefEqProofs only [go_sem, Nat.reduceLT, Nat.reduceAdd, Nat.reduceSub, Nat.reduceMul, Nat.reduceEqDiff, Nat.reduceBEq, Nat.reduceLeDiff, Int.reduceToNat, Int.reduceLT, Int.reduceLE, Int.reduceEq, reduceCtorEq, ↓reduceIte] at w28
  cases h
  simp -implicitDefEqProofs only [go_sem, Nat.reduceLT, Nat.reduceAdd, Nat.reduceSub, Nat.reduceMul, Nat.reduceEqDiff, Nat.reduceBEq, Nat.reduceLeDiff, Int.reduceToNat, Int.reduceLT, Int.reduceLE, Int.reduceEq, reduceCtorEq, ↓reduceIte, i28, c28, g1, w28]
-- f47 laws.toIntSS
theorem call47 (args : List AV) (S : St) : evCall T (evFL T) 47 args S = lendC (evFL T 47) S (lendAll S [[1]] args) := evCall0 fn47 rfl rfl rfl args S
theorem callz47 (args : List AV) (S : St) : evCallFz T (evFL T) 47 args S = lendZ (evFL T 47) S [[1]] (lendAll S [[1]] args) := evCallFz0 fn47 rfl rfl rfl args S
theorem calls47 (args : List AV) (S : St) : evCall (T.at true) (evFL T) 47 args S = lendC (evFL T 47) S (lendAll S [[1]] args) := evCall0 fns47 rfl rfl rfl args S
theorem callsz47 (args : List AV) (S : St) : evCallFz (T.at true) (evFL T) 47 args S = lendZ (evFL T 47) S [[1]] (lendAll S [[1]] args) := evCallFz0 fns47 rfl rfl rfl args S
attribute [go_sem] call47 callz47 calls47 callsz47
noncomputable def X47_1 (a0 : (List (List Int))) (o : (List (List Int))) : Ex × Fr × St :=
  (.exit 0, frOf 23 (upd anyF 3 (.sl 0 0 o.length)), [some ⟨.arr, 1, o.map (encLInt .own)⟩])
noncomputable def E47_1 (a0 : (List (List Int))) (s : (Int × List (List Int))) : Fr × St := (frOf 23 (upd (upd (upd anyF 0 (.ts .imm 1 (a0.map (encLInt .imm)))) 3 (.sl 0 0 s.2.length)) 4 (.int .i64 s.1)), [some ⟨.arr, 1, s.2.map (encLInt .own)⟩])
theorem b47_1 (a0 : (List (List Int))) (s : (Int × List (List Int))) (o : Ctl (Int × List (List Int)) (List (List Int))) (h : m47_1b a0 s = some o) : evCL T 0 k47_1b (E47_1 a0 s).1 (E47_1 a0 s).2 = some (ctlX (E47_1 a0) (X47_1 a0) o) := by
  unfold m47_1b at h
  obtain ⟨s17, s18⟩ := s
  replace h := sel2_some h
  try simp -implicitDefEqProofs only [go_sem, Nat.reduceLT, Nat.reduceAdd, Nat.reduceSub, Nat.reduceMul, Nat.reduceEqDiff, Nat.reduceBEq, Nat.reduceLeDiff, Int.reduceToNat, Int.reduceLT, Int.reduceLE, Int.reduceEq, reduceCtorEq, ↓reduceIte, E47_1, X47_1, k47_1b]
  cases b19 : (ltI s17 (↑a0.length : Int) : Bool)
  · replace h := br_f b19 h
    cases h
    simp -implicitDefEqProofs only [go_sem, Nat.reduceLT, Nat.reduceAdd, Nat.reduceSub, Nat.reduceMul, Nat.reduceEqDiff, Nat.reduceBEq, Nat.reduceLeDiff, Int.reduceToNat, Int.reduceLT, Int.reduceLE, Int.reduceEq, reduceCtorEq, ↓reduceIte, E47_1, X47_1, k47_1b, b19]
  · replace h := br_t b19 h
    obtain ⟨x20, q21, h⟩ := bnd_some h
    obtain ⟨g22, g23, g24⟩ := idx_row (encLInt .imm) q21
    try simp -implicitDefEqProofs only [go_sem, Nat.reduceLT, Nat.reduceAdd, Nat.reduceSub, Nat.reduceMul, Nat.reduceEqDiff, Nat.reduceBEq, Nat.reduceLeDiff, Int.reduceToNat, Int.reduceLT, Int.reduceLE, Int.reduceEq, reduceCtorEq, ↓reduceIte] at g23
    try simp -implicitDefEqProofs only [go_sem, Nat.reduceLT, Nat.reduceAdd, Nat.reduceSub, Nat.reduceMul, Nat.reduceEqDiff, Nat.reduceBEq, Nat.reduceLeDiff, Int.reduceToNat, Int.reduceLT, Int.reduceLE, Int.reduceEq, reduceCtorEq, ↓reduceIte] at g24
    obtain ⟨r27, q25, h⟩ := bnd_some h
    have w26 := e28 x20 r27 q25
    try simp -implicitDefEqProofs only [go_sem, Nat.reduceLT, Nat.reduceAdd, Nat.reduceSub, Nat.reduceMul, Nat.reduceEqDiff, Nat.reduceBEq, Nat.reduceLeDiff, Int.reduceToNat, Int.reduceLT, Int.reduceLE, Int.reduceEq, reduceCtorEq, ↓reduceIte] at w26
    obtain ⟨x28, q29, h⟩ := bnd_some h
    obtain ⟨g30, g31, g32⟩ := idx_row (encLInt .own) q29
    try simp -implicitDefEqProofs only [go_sem, Nat.reduceLT, Nat.reduceAdd, Nat.reduceSub, Nat.reduceMul, Nat.reduceEqDiff, Nat.reduceBEq, Nat.reduceLeDiff, Int.reduceToNat, Int.reduceLT, Int.reduceLE, Int.reduceEq, reduceCtorEq, ↓reduceIte] at g31
    try simp -implicitDefEqProofs only [go_sem, Nat.reduceLT, Nat.reduceAdd, Nat.reduceSub, Nat.reduceMul, Nat.reduceEqDiff, Nat.reduceBEq, Nat.reduceLeDiff, Int.reduceToNat, Int.reduceLT, Int.reduceLE, Int.reduceEq, reduceCtorEq, ↓reduceIte] at g32
    cases h
    simp -implicitDefEqProofs only [go_sem, Nat.reduceLT, Nat.reduceAdd, Nat.reduceSub, Nat.reduceMul, Nat.reduceEqDiff, Nat.reduceBEq, Nat.reduceLeDiff, Int.reduceToNat, Int.reduceLT, Int.reduceLE, Int.reduceEq, reduceCtorEq, ↓reduceIte, E47_1, X47_1, k47_1b, b19, g22, g23, g24, w26, g30, g31, g32]
theorem e47_1 (a0 : (List (List Int))) (s : (Int × List (List Int))) (o : (List (List Int))) (h : loopP (m47_1b a0) s = some o) : evCL T 0 (.loop k47_1b) (E47_1 a0 s).1 (E47_1 a0 s).2 = some (X47_1 a0 o) :=
  loop_walk (E := E47_1 a0) (X := X47_1 a0) (by intro b; (simp only [X47_1]; nofun)) (b47_1 a0) s o h
theorem e47 (a0 : (List (List Int))) (r : (List (List Int))) (h : m47 a0 = some r) : evFL T 47 [.ts .imm 1 (a0.map (encLInt .imm))] [] = some (.sl 0 0 r.length, [some ⟨.arr, 1, r.map (encLInt .own)⟩]) := by
  unfold m47 at h
  rw [evFL_at fn47 (Nat.le_of_ble_eq_true rfl) rfl (.inr rfl) ⟨rfl, rfl⟩]
  obtain ⟨g1, h⟩ := ck_some h
  try simp -implicitDefEqProofs only [go_sem, Nat.reduceLT, Nat.reduceAdd, Nat.reduceSub, Nat.reduceMul, Nat.reduceEqDiff, Nat.reduceBEq, Nat.reduceLeDiff, Int.reduceToNat, Int.reduceLT, Int.reduceLE, Int.reduceEq, reduceCtorEq, ↓reduceIte] at g1
  obtain ⟨v35, q33, h⟩ := bnd_some h
  have w34 := e47_1 a0 (0, List.replicate a0.length []) v35 q33
  simp only [E47_1, X47_1] at w34
  try simp -implicitDefEqProofs only [go_sem, Nat.reduceLT, Nat.reduceAdd, Nat.reduceSub, Nat.reduceMul, Nat.reduceEqDiff, Nat.reduceBEq, Nat.reduceLeDiff, Int.reduceToNat, Int.reduceLT, Int.reduceLE, Int.reduceEq, reduceCtorEq, ↓reduceIte] at w34
  cases h
  simp -implicitDefEqProofs only [go_sem, Nat.reduceLT, Nat.reduceAdd, Nat.reduceSub, Nat.reduceMul, Nat.reduceEqDiff, Nat.reduceBEq, Nat.reduceLeDiff, Int.reduceToNat, Int.reduceLT, Int.reduceLE, Int.reduceEq, reduceCtorEq, ↓reduceIte, i47, c47, g1, w34]
-- f14 laws.toAlgebra
theorem call14 (args : List AV) (S : St) : evCall T (evFL T) 14 args S = lendC (evFL T 14) S (lendAll S [[0, 1]] args) := evCall0 fn14 rfl rfl rfl args S
theorem callz14 (args : List AV) (S : St) : evCallFz T (evFL T) 14 args S = lendZ (evFL T 14) S [[0, 1]] (lendAll S [[0, 1]] args) := evCallFz0 fn14 rfl rfl rfl args S
theorem calls14 (args : List AV) (S : St) : evCall (T.at true) (evFL T) 14 args S = lendC (evFL T 14) S (lendAll S [[0, 1]] args) := evCall0 fns14 rfl rfl rfl args S
theorem callsz14 (args : List AV) (S : St) : evCallFz (T.at true) (evFL T) 14 args S = lendZ (evFL T 14) S [[0, 1]] (lendAll S [[0, 1]] args) := evCallFz0 fns14 rfl rfl rfl args S
attribute [go_sem] call14 callz14 calls14 callsz14
theorem e14 (a0 : Algebra) (r : Algebra) (h : m14 a0 = some r) : evFL T 14 [.agg [.int .i64 a0.weights, .ts .imm 1 (a0.apply.map (encLInt .imm))]] [] = some (.agg [.int .i64 r.weights, .sl 0 0 r.apply.length], [some ⟨.arr, 1, r.apply.map (encLInt .own)⟩]) := by
  unfold m14 at h
  rw [evFL_at fn14 (Nat.le_of_ble_eq_true rfl) rfl (.inr rfl) ⟨rfl, rfl⟩]
  obtain ⟨r3, q1, h⟩ := bnd_some h
  have w2 := e47 a0.apply r3 q1
  try simp -implicitDefEqProofs only [go_sem, Nat.reduceLT, Nat.reduceAdd, Nat.reduceSub, Nat.reduceMul, Nat.reduceEqDiff, Nat.reduceBEq, Nat.reduceLeDiff, Int.reduceToNat, Int.reduceLT, Int.reduceLE, Int.reduceEq, reduceCtorEq, ↓reduceIte] at w2
  cases h
  simp -implicitDefEqProofs only [go_sem, Nat.reduceLT, Nat.reduceAdd, Nat.reduceSub, Nat.reduceMul, Nat.reduceEqDiff, Nat.reduceBEq, Nat.reduceLeDiff, Int.reduceToNat, Int.reduceLT, Int.reduceLE, Int.reduceEq, reduceCtorEq, ↓reduceIte, i14, c14, w2]
-- f45 spec.l1In
theorem call45 (args : List AV) (S : St) : evCall T (evFL T) 45 args S = lendC (evFL T 45) S (lendAll S [[0], [0], [0]] args) := evCall0 fn45 rfl rfl rfl args S
theorem callz45 (args : List AV) (S : St) : evCallFz T (evFL T) 45 args S = lendZ (evFL T 45) S [[0]] (lendAll S [[0], [0], [0]] args) := evCallFz0 fn45 rfl rfl rfl args S
theorem calls45 (args : List AV) (S : St) : evCall (T.at true) (evFL T) 45 args S = lendC (evFL T 45) S (lendAll S [[0], [0], [0]] args) := evCall0 fns45 rfl rfl rfl args S
theorem callsz45 (args : List AV) (S : St) : evCallFz (T.at true) (evFL T) 45 args S = lendZ (evFL T 45) S [[0]] (lendAll S [[0], [0], [0]] args) := evCallFz0 fns45 rfl rfl rfl args S
attribute [go_sem] call45 callz45 calls45 callsz45
noncomputable def X45_1 (a0 : Int) (a1 : Int) (a2 : Int) (o : Bool) : Ex × Fr × St :=
  (.normal, frOf 15 (upd anyF 6 (.bool o)), [])
theorem e45_1 (a0 : Int) (a1 : Int) (a2 : Int) (o : Bool) (h : m45_1 a0 a1 a2 = some o) : evCL T 0 k45_1 (frOf 15 (upd (upd (upd anyF 0 (.int .i64 a0)) 1 (.int .i64 a1)) 2 (.int .i64 a2))) [] = some (X45_1 a0 a1 a2 o) := by
  unfold m45_1 at h
  try simp -implicitDefEqProofs only [go_sem, Nat.reduceLT, Nat.reduceAdd, Nat.reduceSub, Nat.reduceMul, Nat.reduceEqDiff, Nat.reduceBEq, Nat.reduceLeDiff, Int.reduceToNat, Int.reduceLT, Int.reduceLE, Int.reduceEq, reduceCtorEq, ↓reduceIte, X45_1, k45_1]
  cases b1 : (leI a1 a0 : Bool)
  · replace h := br_f b1 h
    cases h
    simp -implicitDefEqProofs only [go_sem, Nat.reduceLT, Nat.reduceAdd, Nat.reduceSub, Nat.reduceMul, Nat.reduceEqDiff, Nat.reduceBEq, Nat.reduceLeDiff, Int.reduceToNat, Int.reduceLT, Int.reduceLE, Int.reduceEq, reduceCtorEq, ↓reduceIte, X45_1, k45_1, b1]
  · replace h := br_t b1 h
    cases h
    simp -implicitDefEqProofs only [go_sem, Nat.reduceLT, Nat.reduceAdd, Nat.reduceSub, Nat.reduceMul, Nat.reduceEqDiff, Nat.reduceBEq, Nat.reduceLeDiff, Int.reduceToNat, Int.reduceLT, Int.reduceLE, Int.reduceEq, reduceCtorEq, ↓reduceIte, X45_1, k45_1, b1]
theorem e45 (a0 : Int) (a1 : Int) (a2 : Int) (r : Bool) (h : m45 a0 a1 a2 = some r) : evFL T 45 [.int .i64 a0, .int .i64 a1, .int .i64 a2] [] = some (.bool r, []) := by
  unfold m45 at h
  rw [evFL_at fn45 (Nat.le_of_ble_eq_true rfl) rfl (.inr rfl) ⟨rfl, rfl⟩]
  obtain ⟨v4, q2, h⟩ := bnd_some h
  have w3 := e45_1 a0 a1 a2 v4 q2
  simp only [X45_1] at w3
  try simp -implicitDefEqProofs only [go_sem, Nat.reduceLT, Nat.reduceAdd, Nat.reduceSub, Nat.reduceMul, Nat.reduceEqDiff, Nat.reduceBEq, Nat.reduceLeDiff, Int.reduceToNat, Int.reduceLT, Int.reduceLE, Int.reduceEq, reduceCtorEq, ↓reduceIte] at w3
  cases h
  simp -implicitDefEqProofs only [go_sem, Nat.reduceLT, Nat.reduceAdd, Nat.reduceSub, Nat.reduceMul, Nat.reduceEqDiff, Nat.reduceBEq, Nat.reduceLeDiff, Int.reduceToNat, Int.reduceLT, Int.reduceLE, Int.reduceEq, reduceCtorEq, ↓reduceIte, i45, c45, w3]
-- f46 spec.l9Apply
theorem call46 (args : List AV) (S : St) : evCall T (evFL T) 46 args S = lendC (evFL T 46) S (lendAll S [[1], [0]] args) := evCall0 fn46 rfl rfl rfl args S
theorem callz46 (args : List AV) (S : St) : evCallFz T (evFL T) 46 args S = lendZ (evFL T 46) S [[0]] (lendAll S [[1], [0]] args) := evCallFz0 fn46 rfl rfl rfl args S
theorem calls46 (args : List AV) (S : St) : evCall (T.at true) (evFL T) 46 args S = lendC (evFL T 46) S (lendAll S [[1], [0]] args) := evCall0 fns46 rfl rfl rfl args S
theorem callsz46 (args : List AV) (S : St) : evCallFz (T.at true) (evFL T) 46 args S = lendZ (evFL T 46) S [[0]] (lendAll S [[1], [0]] args) := evCallFz0 fns46 rfl rfl rfl args S
attribute [go_sem] call46 callz46 calls46 callsz46
noncomputable def X46_3 (a0 : (List Int)) (a1 : Int) (x15 : Int) (p1 : Int) (s13 : Int) (o : Bool) : Ex × Fr × St :=
  (.normal, frOf 35 (upd (upd (upd (upd (upd (upd anyF 0 (.ts .imm 1 (a0.map encInt))) 1 (.int .i64 a1)) 7 (.ts .imm 1 (a0.map encInt))) 8 (.int .i64 p1)) 9 (.int .i64 s13)) 19 (.bool o)), [])
theorem e46_3 (a0 : (List Int)) (a1 : Int) (x15 : Int) (p1 : Int) (s13 : Int) (o : Bool) (h : m46_3 a1 x15 = some o) : evCL T 0 k46_3 (frOf 35 (upd (upd (upd (upd (upd (upd anyF 0 (.ts .imm 1 (a0.map encInt))) 1 (.int .i64 a1)) 6 (.int .i64 x15)) 7 (.ts .imm 1 (a0.map encInt))) 8 (.int .i64 p1)) 9 (.int .i64 s13))) [] = some (X46_3 a0 a1 x15 p1 s13 o) := by
  unfold m46_3 at h
  try simp -implicitDefEqProofs only [go_sem, Nat.reduceLT, Nat.reduceAdd, Nat.reduceSub, Nat.reduceMul, Nat.reduceEqDiff, Nat.reduceBEq, Nat.reduceLeDiff, Int.reduceToNat, Int.reduceLT, Int.reduceLE, Int.reduceEq, reduceCtorEq, ↓reduceIte, X46_3, k46_3]
  cases b20 : (ltI x15 0 : Bool)
  · replace h := br_f b20 h
    cases h
    simp -implicitDefEqProofs only [go_sem, Nat.reduceLT, Nat.reduceAdd, Nat.reduceSub, Nat.reduceMul, Nat.reduceEqDiff, Nat.reduceBEq, Nat.reduceLeDiff, Int.reduceToNat, Int.reduceLT, Int.reduceLE, Int.reduceEq, reduceCtorEq, ↓reduceIte, X46_3, k46_3, b20]
  · replace h := br_t b20 h
    cases h
    simp -implicitDefEqProofs only [go_sem, Nat.reduceLT, Nat.reduceAdd, Nat.reduceSub, Nat.reduceMul, Nat.reduceEqDiff, Nat.reduceBEq, Nat.reduceLeDiff, Int.reduceToNat, Int.reduceLT, Int.reduceLE, Int.reduceEq, reduceCtorEq, ↓reduceIte, X46_3, k46_3, b20]
noncomputable def X46_1 (a0 : (List Int)) (a1 : Int) (p1 : Int) (o : (Unit ⊕ Unit)) : Ex × Fr × St :=
  match o with
  | .inl o => (.exit 0, frOf 35 (upd (upd anyF 0 (.ts .imm 1 (a0.map encInt))) 1 (.int .i64 a1)), [])
  | .inr o => (.ret, frOf 35 (upd anyF 4 (.bool false)), [])
noncomputable def E46_1 (a0 : (List Int)) (a1 : Int) (p1 : Int) (s : Int) : Fr × St := (frOf 35 (upd (upd (upd (upd (upd anyF 0 (.ts .imm 1 (a0.map encInt))) 1 (.int .i64 a1)) 7 (.ts .imm 1 (a0.map encInt))) 8 (.int .i64 p1)) 9 (.int .i64 s)), [])
theorem b46_1 (a0 : (List Int)) (a1 : Int) (p1 : Int) (s : Int) (o : Ctl Int (Unit ⊕ Unit)) (h : m46_1b a0 a1 p1 s = some o) : evCL T 0 k46_1b (E46_1 a0 a1 p1 s).1 (E46_1 a0 a1 p1 s).2 = some (ctlX (E46_1 a0 a1 p1) (X46_1 a0 a1 p1) o) := by
  unfold m46_1b at h
  revert h
  generalize s = s13
  intro h
  try simp -implicitDefEqProofs only [go_sem, Nat.reduceLT, Nat.reduceAdd, Nat.reduceSub, Nat.reduceMul, Nat.reduceEqDiff, Nat.reduceBEq, Nat.reduceLeDiff, Int.reduceToNat, Int.reduceLT, Int.reduceLE, Int.reduceEq, reduceCtorEq, ↓reduceIte, E46_1, X46_1, k46_1b]
  cases b14 : (ltI s13 p1 : Bool)
  · replace h := br_f b14 h
    cases h
    simp -implicitDefEqProofs only [go_sem, Nat.reduceLT, Nat.reduceAdd, Nat.reduceSub, Nat.reduceMul, Nat.reduceEqDiff, Nat.reduceBEq, Nat.reduceLeDiff, Int.reduceToNat, Int.reduceLT, Int.reduceLE, Int.reduceEq, reduceCtorEq, ↓reduceIte, E46_1, X46_1, k46_1b, b14]
  · replace h := br_t b14 h
    obtain ⟨x15, q16, h⟩ := bnd_some h
    obtain ⟨g17, g18, g19⟩ := idx_row encInt q16
    try simp -implicitDefEqProofs only [go_sem, Nat.reduceLT, Nat.reduceAdd, Nat.reduceSub, Nat.reduceMul, Nat.reduceEqDiff, Nat.reduceBEq, Nat.reduceLeDiff, Int.reduceToNat, Int.reduceLT, Int.reduceLE, Int.reduceEq, reduceCtorEq, ↓reduceIte] at g18
    try simp -implicitDefEqProofs only [go_sem, Nat.reduceLT, Nat.reduceAdd, Nat.reduceSub, Nat.reduceMul, Nat.reduceEqDiff, Nat.reduceBEq, Nat.reduceLeDiff, Int.reduceToNat, Int.reduceLT, Int.reduceLE, Int.reduceEq, reduceCtorEq, ↓reduceIte] at g19
    obtain ⟨v23, q21, h⟩ := bnd_some h
    have w22 := e46_3 a0 a1 x15 p1 s13 v23 q21
    simp only [X46_3] at w22
    try simp -implicitDefEqProofs only [go_sem, Nat.reduceLT, Nat.reduceAdd, Nat.reduceSub, Nat.reduceMul, Nat.reduceEqDiff, Nat.reduceBEq, Nat.reduceLeDiff, Int.reduceToNat, Int.reduceLT, Int.reduceLE, Int.reduceEq, reduceCtorEq, ↓reduceIte] at w22
    try simp -implicitDefEqProofs only [go_sem, Nat.reduceLT, Nat.reduceAdd, Nat.reduceSub, Nat.reduceMul, Nat.reduceEqDiff, Nat.reduceBEq, Nat.reduceLeDiff, Int.reduceToNat, Int.reduceLT, Int.reduceLE, Int.reduceEq, reduceCtorEq, ↓reduceIte, E46_1, X46_1, k46_1b, b14, g17, g18, g19, w22]
    cases b24 : (v23 : Bool)
    · replace h := br_f b24 h
      cases h
      simp -implicitDefEqProofs only [go_sem, Nat.reduceLT, Nat.reduceAdd, Nat.reduceSub, Nat.reduceMul, Nat.reduceEqDiff, Nat.reduceBEq, Nat.reduceLeDiff, Int.reduceToNat, Int.reduceLT, Int.reduceLE, Int.reduceEq, reduceCtorEq, ↓reduceIte, E46_1, X46_1, k46_1b, b14, g17, g18, g19, w22, b24]
    · replace h := br_t b24 h
      cases h
      simp -implicitDefEqProofs only [go_sem, Nat.reduceLT, Nat.reduceAdd, Nat.reduceSub, Nat.reduceMul, Nat.reduceEqDiff, Nat.reduceBEq, Nat.reduceLeDiff, Int.reduceToNat, Int.reduceLT, Int.reduceLE, Int.reduceEq, reduceCtorEq, ↓reduceIte, E46_1, X46_1, k46_1b, b14, g17, g18, g19, w22, b24]
theorem e46_1 (a0 : (List Int)) (a1 : Int) (p1 : Int) (s : Int) (o : (Unit ⊕ Unit)) (h : loopP (m46_1b a0 a1 p1) s = some o) : evCL T 0 (.loop k46_1b) (E46_1 a0 a1 p1 s).1 (E46_1 a0 a1 p1 s).2 = some (X46_1 a0 a1 p1 o) :=
  loop_walk (E := E46_1 a0 a1 p1) (X := X46_1 a0 a1 p1) (by intro b; rcases b with b | b <;> (simp only [X46_1]; nofun)) (b46_1 a0 a1 p1) s o h
noncomputable def X46_4 (a0 : (List Int)) (a1 : Int) (o : Bool) : Ex × Fr × St :=
  (.normal, frOf 35 (upd anyF 4 (.bool o)), [])
theorem e46_4 (a0 : (List Int)) (a1 : Int) (o : Bool) (h : m46_4 a0 a1 = some o) : evCL T 0 k46_4 (frOf 35 (upd (upd anyF 0 (.ts .imm 1 (a0.map encInt))) 1 (.int .i64 a1))) [] = some (X46_4 a0 a1 o) := by
  unfold m46_4 at h
  try simp -implicitDefEqProofs only [go_sem, Nat.reduceLT, Nat.reduceAdd, Nat.reduceSub, Nat.reduceMul, Nat.reduceEqDiff, Nat.reduceBEq, Nat.reduceLeDiff, Int.reduceToNat, Int.reduceLT, Int.reduceLE, Int.reduceEq, reduceCtorEq, ↓reduceIte, X46_4, k46_4]
  cases b27 : (eqI (↑a0.length : Int) a1 : Bool)
  · replace h := br_f b27 h
    cases h
    simp -implicitDefEqProofs only [go_sem, Nat.reduceLT, Nat.reduceAdd, Nat.reduceSub, Nat.reduceMul, Nat.reduceEqDiff, Nat.reduceBEq, Nat.reduceLeDiff, Int.reduceToNat, Int.reduceLT, Int.reduceLE, Int.reduceEq, reduceCtorEq, ↓reduceIte, X46_4, k46_4, b27]
  · replace h := br_t b27 h
    obtain ⟨x28, q29, h⟩ := bnd_some h
    obtain ⟨g30, g31, g32⟩ := idx_row encInt q29
    try simp -implicitDefEqProofs only [go_sem, Nat.reduceLT, Nat.reduceAdd, Nat.reduceSub, Nat.reduceMul, Nat.reduceEqDiff, Nat.reduceBEq, Nat.reduceLeDiff, Int.reduceToNat, Int.reduceLT, Int.reduceLE, Int.reduceEq, reduceCtorEq, ↓reduceIte] at g31
    try simp -implicitDefEqProofs only [go_sem, Nat.reduceLT, Nat.reduceAdd, Nat.reduceSub, Nat.reduceMul, Nat.reduceEqDiff, Nat.reduceBEq, Nat.reduceLeDiff, Int.reduceToNat, Int.reduceLT, Int.reduceLE, Int.reduceEq, reduceCtorEq, ↓reduceIte] at g32
    cases h
    simp -implicitDefEqProofs only [go_sem, Nat.reduceLT, Nat.reduceAdd, Nat.reduceSub, Nat.reduceMul, Nat.reduceEqDiff, Nat.reduceBEq, Nat.reduceLeDiff, Int.reduceToNat, Int.reduceLT, Int.reduceLE, Int.reduceEq, reduceCtorEq, ↓reduceIte, X46_4, k46_4, b27, g30, g31, g32]
theorem e46 (a0 : (List Int)) (a1 : Int) (r : Bool) (h : m46 a0 a1 = some r) : evFL T 46 [.ts .imm 1 (a0.map encInt), .int .i64 a1] [] = some (.bool r, []) := by
  unfold m46 at h
  rw [evFL_at fn46 (Nat.le_of_ble_eq_true rfl) rfl (.inr rfl) ⟨rfl, rfl⟩]
  try simp -implicitDefEqProofs only [go_sem, Nat.reduceLT, Nat.reduceAdd, Nat.reduceSub, Nat.reduceMul, Nat.reduceEqDiff, Nat.reduceBEq, Nat.reduceLeDiff, Int.reduceToNat, Int.reduceLT, Int.reduceLE, Int.reduceEq, reduceCtorEq, ↓reduceIte, i46, c46]
  obtain ⟨o, q25, h⟩ := bnd_some h
  rcases o with ⟨⟩ | ⟨⟩
  · replace h := selS_l h
    have w26 := e46_1 a0 a1 (↑a0.length : Int) 0 (.inl ()) q25
    simp only [E46_1, X46_1] at w26
    try simp -implicitDefEqProofs only [go_sem, Nat.reduceLT, Nat.reduceAdd, Nat.reduceSub, Nat.reduceMul, Nat.reduceEqDiff, Nat.reduceBEq, Nat.reduceLeDiff, Int.reduceToNat, Int.reduceLT, Int.reduceLE, Int.reduceEq, reduceCtorEq, ↓reduceIte] at w26
    obtain ⟨v35, q33, h⟩ := bnd_some h
    have w34 := e46_4 a0 a1 v35 q33
    simp only [X46_4] at w34
    try simp -implicitDefEqProofs only [go_sem, Nat.reduceLT, Nat.reduceAdd, Nat.reduceSub, Nat.reduceMul, Nat.reduceEqDiff, Nat.reduceBEq, Nat.reduceLeDiff, Int.reduceToNat, Int.reduceLT, Int.reduceLE, Int.reduceEq, reduceCtorEq, ↓reduceIte] at w34
    cases h
    simp -implicitDefEqProofs only [go_sem, Nat.reduceLT, Nat.reduceAdd, Nat.reduceSub, Nat.reduceMul, Nat.reduceEqDiff, Nat.reduceBEq, Nat.reduceLeDiff, Int.reduceToNat, Int.reduceLT, Int.reduceLE, Int.reduceEq, reduceCtorEq, ↓reduceIte, i46, c46, w26, w34]
  · replace h := selS_r h
    have w26 := e46_1 a0 a1 (↑a0.length : Int) 0 (.inr ()) q25
    simp only [E46_1, X46_1] at w26
    try simp -implicitDefEqProofs only [go_sem, Nat.reduceLT, Nat.reduceAdd, Nat.reduceSub, Nat.reduceMul, Nat.reduceEqDiff, Nat.reduceBEq, Nat.reduceLeDiff, Int.reduceToNat, Int.reduceLT, Int.reduceLE, Int.reduceEq, reduceCtorEq, ↓reduceIte] at w26
    cases h
    simp -implicitDefEqProofs only [go_sem, Nat.reduceLT, Nat.reduceAdd, Nat.reduceSub, Nat.reduceMul, Nat.reduceEqDiff, Nat.reduceBEq, Nat.reduceLeDiff, Int.reduceToNat, Int.reduceLT, Int.reduceLE, Int.reduceEq, reduceCtorEq, ↓reduceIte, i46, c46, w26]
-- f13 spec.GoodAlgebra
theorem call13 (args : List AV) (S : St) : evCall T (evFL T) 13 args S = lendC (evFL T 13) S (lendAll S [[0, 1]] args) := evCall0 fn13 rfl rfl rfl args S
theorem callz13 (args : List AV) (S : St) : evCallFz T (evFL T) 13 args S = lendZ (evFL T 13) S [[0]] (lendAll S [[0, 1]] args) := evCallFz0 fn13 rfl rfl rfl args S
theorem calls13 (args : List AV) (S : St) : evCall (T.at true) (evFL T) 13 args S = lendC (evFL T 13) S (lendAll S [[0, 1]] args) := evCall0 fns13 rfl rfl rfl args S
theorem callsz13 (args : List AV) (S : St) : evCallFz (T.at true) (evFL T) 13 args S = lendZ (evFL T 13) S [[0]] (lendAll S [[0, 1]] args) := evCallFz0 fns13 rfl rfl rfl args S
attribute [go_sem] call13 callz13 calls13 callsz13
noncomputable def X13_1 (a0 : Algebra) (o : Bool) : Ex × Fr × St :=
  (.normal, frOf 29 (upd (upd anyF 1 (.ptr 0 0 0)) 15 (.bool o)), [some ⟨.box, 2, [[.int .i64 a0.weights, .ts .imm 1 (a0.apply.map (encLInt .imm))]]⟩])
theorem e13_1 (a0 : Algebra) (o : Bool) (h : m13_1 a0 = some o) : evCL T 0 k13_1 (frOf 29 (upd anyF 1 (.ptr 0 0 0))) [some ⟨.box, 2, [[.int .i64 a0.weights, .ts .imm 1 (a0.apply.map (encLInt .imm))]]⟩] = some (X13_1 a0 o) := by
  unfold m13_1 at h
  obtain ⟨r3, q1, h⟩ := bnd_some h
  have w2 := e45 a0.weights 2 12 r3 q1
  try simp -implicitDefEqProofs only [go_sem, Nat.reduceLT, Nat.reduceAdd, Nat.reduceSub, Nat.reduceMul, Nat.reduceEqDiff, Nat.reduceBEq, Nat.reduceLeDiff, Int.reduceToNat, Int.reduceLT, Int.reduceLE, Int.reduceEq, reduceCtorEq, ↓reduceIte] at w2
  try simp -implicitDefEqProofs only [go_sem, Nat.reduceLT, Nat.reduceAdd, Nat.reduceSub, Nat.reduceMul, Nat.reduceEqDiff, Nat.reduceBEq, Nat.reduceLeDiff, Int.reduceToNat, Int.reduceLT, Int.reduceLE, Int.reduceEq, reduceCtorEq, ↓reduceIte, X13_1, k13_1, w2]
  cases b4 : (r3 : Bool)
  · replace h := br_f b4 h
    cases h
    simp -implicitDefEqProofs only [go_sem, Nat.reduceLT, Nat.reduceAdd, Nat.reduceSub, Nat.reduceMul, Nat.reduceEqDiff, Nat.reduceBEq, Nat.reduceLeDiff, Int.reduceToNat, Int.reduceLT, Int.reduceLE, Int.reduceEq, reduceCtorEq, ↓reduceIte, X13_1, k13_1, w2, b4]
  · replace h := br_t b4 h
    obtain ⟨r7, q5, h⟩ := bnd_some h
    have w6 := e45 (↑a0.apply.length : Int) 1 4 r7 q5
    try simp -implicitDefEqProofs only [go_sem, Nat.reduceLT, Nat.reduceAdd, Nat.reduceSub, Nat.reduceMul, Nat.reduceEqDiff, Nat.reduceBEq, Nat.reduceLeDiff, Int.reduceToNat, Int.reduceLT, Int.reduceLE, Int.reduceEq, reduceCtorEq, ↓reduceIte] at w6
    cases h
    simp -implicitDefEqProofs only [go_sem, Nat.reduceLT, Nat.reduceAdd, Nat.reduceSub, Nat.reduceMul, Nat.reduceEqDiff, Nat.reduceBEq, Nat.reduceLeDiff, Int.reduceToNat, Int.reduceLT, Int.reduceLE, Int.reduceEq, reduceCtorEq, ↓reduceIte, X13_1, k13_1, w2, b4, w6]
noncomputable def X13_2 (a0 : Algebra) (p12 : Int) (o : (Unit ⊕ Unit)) : Ex × Fr × St :=
  match o with
  | .inl o => (.exit 0, frOf 29 (anyF), [])
  | .inr o => (.ret, frOf 29 (upd anyF 2 (.bool false)), [])
noncomputable def E13_2 (a0 : Algebra) (p12 : Int) (s : Int) : Fr × St := (frOf 29 (upd (upd (upd (upd anyF 1 (.ptr 0 0 0)) 17 (.ts .imm 1 (a0.apply.map (encLInt .imm)))) 18 (.int .i64 p12)) 19 (.int .i64 s)), [some ⟨.box, 2, [[.int .i64 a0.weights, .ts .imm 1 (a0.apply.map (encLInt .imm))]]⟩])
theorem b13_2 (a0 : Algebra) (p12 : Int) (s : Int) (o : Ctl Int (Unit ⊕ Unit)) (h : m13_2b a0 p12 s = some o) : evCL T 0 k13_2b (E13_2 a0 p12 s).1 (E13_2 a0 p12 s).2 = some (ctlX (E13_2 a0 p12) (X13_2 a0 p12) o) := by
  unfold m13_2b at h
  revert h
  generalize s = s23
  intro h
  try simp -implicitDefEqProofs only [go_sem, Nat.reduceLT, Nat.reduceAdd, Nat.reduceSub, Nat.reduceMul, Nat.reduceEqDiff, Nat.reduceBEq, Nat.reduceLeDiff, Int.reduceToNat, Int.reduceLT, Int.reduceLE, Int.reduceEq, reduceCtorEq, ↓reduceIte, E13_2, X13_2, k13_2b]
  cases b24 : (ltI s23 p12 : Bool)
  · replace h := br_f b24 h
    cases h
    simp -implicitDefEqProofs only [go_sem, Nat.reduceLT, Nat.reduceAdd, Nat.reduceSub, Nat.reduceMul, Nat.reduceEqDiff, Nat.reduceBEq, Nat.reduceLeDiff, Int.reduceToNat, Int.reduceLT, Int.reduceLE, Int.reduceEq, reduceCtorEq, ↓reduceIte, E13_2, X13_2, k13_2b, b24]
  · replace h := br_t b24 h
    obtain ⟨x25, q26, h⟩ := bnd_some h
    obtain ⟨g27, g28, g29⟩ := idx_row (encLInt .imm) q26
    try simp -implicitDefEqProofs only [go_sem, Nat.reduceLT, Nat.reduceAdd, Nat.reduceSub, Nat.reduceMul, Nat.reduceEqDiff, Nat.reduceBEq, Nat.reduceLeDiff, Int.reduceToNat, Int.reduceLT, Int.reduceLE, Int.reduceEq, reduceCtorEq, ↓reduceIte] at g28
    try simp -implicitDefEqProofs only [go_sem, Nat.reduceLT, Nat.reduceAdd, Nat.reduceSub, Nat.reduceMul, Nat.reduceEqDiff, Nat.reduceBEq, Nat.reduceLeDiff, Int.reduceToNat, Int.reduceLT, Int.reduceLE, Int.reduceEq, reduceCtorEq, ↓reduceIte] at g29
    obtain ⟨r32, q30, h⟩ := bnd_some h
    have w31 := e46 x25 a0.weights r32 q30
    try simp -implicitDefEqProofs only [go_sem, Nat.reduceLT, Nat.reduceAdd, Nat.reduceSub, Nat.reduceMul, Nat.reduceEqDiff, Nat.reduceBEq, Nat.reduceLeDiff, Int.reduceToNat, Int.reduceLT, Int.reduceLE, Int.reduceEq, reduceCtorEq, ↓reduceIte] at w31
    try simp -implicitDefEqProofs only [go_sem, Nat.reduceLT, Nat.reduceAdd, Nat.reduceSub, Nat.reduceMul, Nat.reduceEqDiff, Nat.reduceBEq, Nat.reduceLeDiff, Int.reduceToNat, Int.reduceLT, Int.reduceLE, Int.reduceEq, reduceCtorEq, ↓reduceIte, E13_2, X13_2, k13_2b, b24, g27, g28, g29, w31]
    cases b33 : (r32 : Bool)
    · replace h := br_f b33 h
      cases h
      simp -implicitDefEqProofs only [go_sem, Nat.reduceLT, Nat.reduceAdd, Nat.reduceSub, Nat.reduceMul, Nat.reduceEqDiff, Nat.reduceBEq, Nat.reduceLeDiff, Int.reduceToNat, Int.reduceLT, Int.reduceLE, Int.reduceEq, reduceCtorEq, ↓reduceIte, E13_2, X13_2, k13_2b, b24, g27, g28, g29, w31, b33]
    · replace h := br_t b33 h
      cases h
      simp -implicitDefEqProofs only [go_sem, Nat.reduceLT, Nat.reduceAdd, Nat.reduceSub, Nat.reduceMul, Nat.reduceEqDiff, Nat.reduceBEq, Nat.reduceLeDiff, Int.reduceToNat, Int.reduceLT, Int.reduceLE, Int.reduceEq, reduceCtorEq, ↓reduceIte, E13_2, X13_2, k13_2b, b24, g27, g28, g29, w31, b33]
theorem e13_2 (a0 : Algebra) (p12 : Int) (s : Int) (o : (Unit ⊕ Unit)) (h : loopP (m13_2b a0 p12) s = some o) : evCL T 0 (.loop k13_2b) (E13_2 a0 p12 s).1 (E13_2 a0 p12 s).2 = some (X13_2 a0 p12 o) :=
  loop_walk (E := E13_2 a0 p12) (X := X13_2 a0 p12) (by intro b; rcases b with b | b <;> (simp only [X13_2]; nofun)) (b13_2 a0 p12) s o h
theorem e13 (a0 : Algebra) (r : Bool) (h : m13 a0 = some r) : evFL T 13 [.agg [.int .i64 a0.weights, .ts .imm 1 (a0.apply.map (encLInt .imm))]] [] = some (.bool r, []) := by
  unfold m13 at h
  rw [evFL_at fn13 (Nat.le_of_ble_eq_true rfl) rfl (.inr rfl) ⟨rfl, rfl⟩]
  obtain ⟨v10, q8, h⟩ := bnd_some h
  have w9 := e13_1 a0 v10 q8
  simp only [X13_1] at w9
  try simp -implicitDefEqProofs only [go_sem, Nat.reduceLT, Nat.reduceAdd, Nat.reduceSub, Nat.reduceMul, Nat.reduceEqDiff, Nat.reduceBEq, Nat.reduceLeDiff, Int.reduceToNat, Int.reduceLT, Int.reduceLE, Int.reduceEq, reduceCtorEq, ↓reduceIte] at w9
  try simp -implicitDefEqProofs only [go_sem, Nat.reduceLT, Nat.reduceAdd, Nat.reduceSub, Nat.reduceMul, Nat.reduceEqDiff, Nat.reduceBEq, Nat.reduceLeDiff, Int.reduceToNat, Int.reduceLT, Int.reduceLE, Int.reduceEq, reduceCtorEq, ↓reduceIte, i13, c13, w9]
  cases b11 : (v10 : Bool)
  · replace h := br_f b11 h
    try simp -implicitDefEqProofs only [go_sem, Nat.reduceLT, Nat.reduceAdd, Nat.reduceSub, Nat.reduceMul, Nat.reduceEqDiff, Nat.reduceBEq, Nat.reduceLeDiff, Int.reduceToNat, Int.reduceLT, Int.reduceLE, Int.reduceEq, reduceCtorEq, ↓reduceIte, i13, c13, w9, b11]
    obtain ⟨o, q34, h⟩ := bnd_some h
    rcases o with ⟨⟩ | ⟨⟩
    · replace h := selS_l h
      have w35 := e13_2 a0 (↑a0.apply.length : Int) 0 (.inl ()) q34
      simp only [E13_2, X13_2] at w35
      try simp -implicitDefEqProofs only [go_sem, Nat.reduceLT, Nat.reduceAdd, Nat.reduceSub, Nat.reduceMul, Nat.reduceEqDiff, Nat.reduceBEq, Nat.reduceLeDiff, Int.reduceToNat, Int.reduceLT, Int.reduceLE, Int.reduceEq, reduceCtorEq, ↓reduceIte] at w35
      cases h
      simp -implicitDefEqProofs only [go_sem, Nat.reduceLT, Nat.reduceAdd, Nat.reduceSub, Nat.reduceMul, Nat.reduceEqDiff, Nat.reduceBEq, Nat.reduceLeDiff, Int.reduceToNat, Int.reduceLT, Int.reduceLE, Int.reduceEq, reduceCtorEq, ↓reduceIte, i13, c13, w9, b11, w35]
    · replace h := selS_r h
      have w35 := e13_2 a0 (↑a0.apply.length : Int) 0 (.inr ()) q34
      simp only [E13_2, X13_2] at w35
      try simp -implicitDefEqProofs only [go_sem, Nat.reduceLT, Nat.reduceAdd, Nat.reduceSub, Nat.reduceMul, Nat.reduceEqDiff, Nat.reduceBEq, Nat.reduceLeDiff, Int.reduceToNat, Int.reduceLT, Int.reduceLE, Int.reduceEq, reduceCtorEq, ↓reduceIte] at w35
      cases h
      simp -implicitDefEqProofs only [go_sem, Nat.reduceLT, Nat.reduceAdd, Nat.reduceSub, Nat.reduceMul, Nat.reduceEqDiff, Nat.reduceBEq, Nat.reduceLeDiff, Int.reduceToNat, Int.reduceLT, Int.reduceLE, Int.reduceEq, reduceCtorEq, ↓reduceIte, i13, c13, w9, b11, w35]
  · replace h := br_t b11 h
    cases h
    simp -implicitDefEqProofs only [go_sem, Nat.reduceLT, Nat.reduceAdd, Nat.reduceSub, Nat.reduceMul, Nat.reduceEqDiff, Nat.reduceBEq, Nat.reduceLeDiff, Int.reduceToNat, Int.reduceLT, Int.reduceLE, Int.reduceEq, reduceCtorEq, ↓reduceIte, i13, c13, w9, b11]
-- f21 spec.LexOf
theorem call21 (args : List AV) (S : St) : evCall T (evFL T) 21 args S = lendC (evFL T 21) S (lendAll S [[0, 1], [0, 1]] args) := evCall0 fn21 rfl rfl rfl args S
theorem callz21 (args : List AV) (S : St) : evCallFz T (evFL T) 21 args S = lendZ (evFL T 21) S [[0, 1], [0]] (lendAll S [[0, 1], [0, 1]] args) := evCallFz0 fn21 rfl rfl rfl args S
theorem calls21 (args : List AV) (S : St) : evCall (T.at true) (evFL T) 21 args S = lendC (evFL T 21) S (lendAll S [[0, 1], [0, 1]] args) := evCall0 fns21 rfl rfl rfl args S
theorem callsz21 (args : List AV) (S : St) : evCallFz (T.at true) (evFL T) 21 args S = lendZ (evFL T 21) S [[0, 1], [0]] (lendAll S [[0, 1], [0, 1]] args) := evCallFz0 fns21 rfl rfl rfl args S
attribute [go_sem] call21 callz21 calls21 callsz21
noncomputable def X21_1 (a0 : Algebra) (a1 : Algebra) (o : Bool) : Ex × Fr × St :=
  (.normal, frOf 118 (upd (upd (upd (upd anyF 2 (.ptr 0 0 0)) 3 (.ptr 1 0 0)) 4 (.ptr 2 0 0)) 32 (.bool o)), [some ⟨.box, 2, [[.int .i64 a0.weights, .ts .imm 1 (a0.apply.map (encLInt .imm))]]⟩, some ⟨.box, 2, [[.int .i64 a1.weights, .ts .imm 1 (a1.apply.map (encLInt .imm))]]⟩, some ⟨.box, 2, [[.int .i64 0, .sl 3 0 0]]⟩, some ⟨.arr, 1, []⟩])
theorem e21_1 (a0 : Algebra) (a1 : Algebra) (o : Bool) (h : m21_1 a0 a1 = some o) : evCL T 0 k21_1 (frOf 118 (upd (upd (upd anyF 2 (.ptr 0 0 0)) 3 (.ptr 1 0 0)) 4 (.ptr 2 0 0))) [some ⟨.box, 2, [[.int .i64 a0.weights, .ts .imm 1 (a0.apply.map (encLInt .imm))]]⟩, some ⟨.box, 2, [[.int .i64 a1.weights, .ts .imm 1 (a1.apply.map (encLInt .imm))]]⟩, some ⟨.box, 2, [[.int .i64 0, .sl 3 0 0]]⟩, some ⟨.arr, 1, []⟩] = some (X21_1 a0 a1 o) := by
  unfold m21_1 at h
  obtain ⟨r3, q1, h⟩ := bnd_some h
  have w2 := e13 a0 r3 q1
  try simp -implicitDefEqProofs only [go_sem, Nat.reduceLT, Nat.reduceAdd, Nat.reduceSub, Nat.reduceMul, Nat.reduceEqDiff, Nat.reduceBEq, Nat.reduceLeDiff, Int.reduceToNat, Int.reduceLT, Int.reduceLE, Int.reduceEq, reduceCtorEq, ↓reduceIte] at w2
  try simp -implicitDefEqProofs only [go_sem, Nat.reduceLT, Nat.reduceAdd, Nat.reduceSub, Nat.reduceMul, Nat.reduceEqDiff, Nat.reduceBEq, Nat.reduceLeDiff, Int.reduceToNat, Int.reduceLT, Int.reduceLE, Int.reduceEq, reduceCtorEq, ↓reduceIte, X21_1, k21_1, w2]
  cases b4 : (r3 : Bool)
  · replace h := br_f b4 h
    cases h
    simp -implicitDefEqProofs only [go_sem, Nat.reduceLT, Nat.reduceAdd, Nat.reduceSub, Nat.reduceMul, Nat.reduceEqDiff, Nat.reduceBEq, Nat.reduceLeDiff, Int.reduceToNat, Int.reduceLT, Int.reduceLE, Int.reduceEq, reduceCtorEq, ↓reduceIte, X21_1, k21_1, w2, b4]
  · replace h := br_t b4 h
    obtain ⟨r7, q5, h⟩ := bnd_some h
    have w6 := e13 a1 r7 q5
    try simp -implicitDefEqProofs only [go_sem, Nat.reduceLT, Nat.reduceAdd, Nat.reduceSub, Nat.reduceMul, Nat.reduceEqDiff, Nat.reduceBEq, Nat.reduceLeDiff, Int.reduceToNat, Int.reduceLT, Int.reduceLE, Int.reduceEq, reduceCtorEq, ↓reduceIte] at w6
    try simp -implicitDefEqProofs only [go_sem, Nat.reduceLT, Nat.reduceAdd, Nat.reduceSub, Nat.reduceMul, Nat.reduceEqDiff, Nat.reduceBEq, Nat.reduceLeDiff, Int.reduceToNat, Int.reduceLT, Int.reduceLE, Int.reduceEq, reduceCtorEq, ↓reduceIte, X21_1, k21_1, w2, b4, w6]
    cases b8 : (r7 : Bool)
    · replace h := br_f b8 h
      cases h
      simp -implicitDefEqProofs only [go_sem, Nat.reduceLT, Nat.reduceAdd, Nat.reduceSub, Nat.reduceMul, Nat.reduceEqDiff, Nat.reduceBEq, Nat.reduceLeDiff, Int.reduceToNat, Int.reduceLT, Int.reduceLE, Int.reduceEq, reduceCtorEq, ↓reduceIte, X21_1, k21_1, w2, b4, w6, b8]
    · replace h := br_t b8 h
      cases h
      simp -implicitDefEqProofs only [go_sem, Nat.reduceLT, Nat.reduceAdd, Nat.reduceSub, Nat.reduceMul, Nat.reduceEqDiff, Nat.reduceBEq, Nat.reduceLeDiff, Int.reduceToNat, Int.reduceLT, Int.reduceLE, Int.reduceEq, reduceCtorEq, ↓reduceIte, X21_1, k21_1, w2, b4, w6, b8]
noncomputable def X21_11 (p14 : Int) (p15 : Int) (x82 : (List Int)) (x87 : (List Int)) (s113 : Int) (x117 : Int) (x123 : Int) (a0 : Algebra) (p16 : Int) (s79 : Int) (a1 : Algebra) (p17 : Int) (s80 : List (List Int)) (s114 : List Int) (o : Bool) : Ex × Fr × St :=
  (.normal, frOf 118 (upd (upd (upd (upd (upd (upd (upd (upd (upd (upd (upd (upd (upd (upd (upd anyF 3 (.ptr 0 0 0)) 4 (.ptr 1 0 0)) 6 (.int .i64 p14)) 7 (.int .i64 p15)) 8 (.ptr 3 0 0)) 10 (.ts .imm 1 (x82.map encInt))) 11 (.ts .imm 1 (x87.map encInt))) 12 (.sl 5 0 s114.length)) 13 (.int .i64 s113)) 14 (.int .i64 x117)) 15 (.int .i64 x123)) 52 (.ts .imm 1 (a0.apply.map (encLInt .imm)))) 53 (.int .i64 p16)) 54 (.int .i64 s79)) 90 (.bool o)), [some ⟨.box, 2, [[.int .i64 a1.weights, .ts .imm 1 (a1.apply.map (encLInt .imm))]]⟩, some ⟨.box, 2, [[.int .i64 0, .sl 2 0 0]]⟩, some ⟨.arr, 1, []⟩, some ⟨.box, 2, [[.int .i64 p17, .sl 4 0 s80.length]]⟩, some ⟨.arr, 1, s80.map (encLInt .own)⟩, some ⟨.arr, 1, s114.map encInt⟩])
theorem e21_11 (p14 : Int) (p15 : Int) (x82 : (List Int)) (x87 : (List Int)) (s113 : Int) (x117 : Int) (x123 : Int) (a0 : Algebra) (p16 : Int) (s79 : Int) (a1 : Algebra) (p17 : Int) (s80 : List (List Int)) (s114 : List Int) (o : Bool) (h : m21_11 p14 p15 x117 x123 = some o) : evCL T 0 k21_11 (frOf 118 (upd (upd (upd (upd (upd (upd (upd (upd (upd (upd (upd (upd (upd (upd anyF 3 (.ptr 0 0 0)) 4 (.ptr 1 0 0)) 6 (.int .i64 p14)) 7 (.int .i64 p15)) 8 (.ptr 3 0 0)) 10 (.ts .imm 1 (x82.map encInt))) 11 (.ts .imm 1 (x87.map encInt))) 12 (.sl 5 0 s114.length)) 13 (.int .i64 s113)) 14 (.int .i64 x117)) 15 (.int .i64 x123)) 52 (.ts .imm 1 (a0.apply.map (encLInt .imm)))) 53 (.int .i64 p16)) 54 (.int .i64 s79))) [some ⟨.box, 2, [[.int .i64 a1.weights, .ts .imm 1 (a1.apply.map (encLInt .imm))]]⟩, some ⟨.box, 2, [[.int .i64 0, .sl 2 0 0]]⟩, some ⟨.arr, 1, []⟩, some ⟨.box, 2, [[.int .i64 p17, .sl 4 0 s80.length]]⟩, some ⟨.arr, 1, s80.map (encLInt .own)⟩, some ⟨.arr, 1, s114.map encInt⟩] = some (X21_11 p14 p15 x82 x87 s113 x117 x123 a0 p16 s79 a1 p17 s80 s114 o) := by
  unfold m21_11 at h
  try simp -implicitDefEqProofs only [go_sem, Nat.reduceLT, Nat.reduceAdd, Nat.reduceSub, Nat.reduceMul, Nat.reduceEqDiff, Nat.reduceBEq, Nat.reduceLeDiff, Int.reduceToNat, Int.reduceLT, Int.reduceLE, Int.reduceEq, reduceCtorEq, ↓reduceIte, X21_11, k21_11]
  cases b128 : (eqI x117 p14 : Bool)
  · replace h := br_f b128 h
    cases h
    simp -implicitDefEqProofs only [go_sem, Nat.reduceLT, Nat.reduceAdd, Nat.reduceSub, Nat.reduceMul, Nat.reduceEqDiff, Nat.reduceBEq, Nat.reduceLeDiff, Int.reduceToNat, Int.reduceLT, Int.reduceLE, Int.reduceEq, reduceCtorEq, ↓reduceIte, X21_11, k21_11, b128]
  · replace h := br_t b128 h
    cases h
    simp -implicitDefEqProofs only [go_sem, Nat.reduceLT, Nat.reduceAdd, Nat.reduceSub, Nat.reduceMul, Nat.reduceEqDiff, Nat.reduceBEq, Nat.reduceLeDiff, Int.reduceToNat, Int.reduceLT, Int.reduceLE, Int.reduceEq, reduceCtorEq, ↓reduceIte, X21_11, k21_11, b128]
noncomputable def X21_12 (p14 : Int) (p15 : Int) (x82 : (List Int)) (x87 : (List Int)) (s113 : Int) (x117 : Int) (x123 : Int) (a0 : Algebra) (p16 : Int) (s79 : Int) (v131 : Bool) (a1 : Algebra) (p17 : Int) (s80 : List (List Int)) (s114 : List Int) (o : (List Int)) : Ex × Fr × St :=
  (.normal, frOf 118 (upd (upd (upd (upd (upd (upd (upd (upd (upd (upd (upd (upd anyF 3 (.ptr 0 0 0)) 4 (.ptr 1 0 0)) 6 (.int .i64 p14)) 7 (.int .i64 p15)) 8 (.ptr 3 0 0)) 10 (.ts .imm 1 (x82.map encInt))) 11 (.ts .imm 1 (x87.map encInt))) 12 (.sl 5 0 o.length)) 13 (.int .i64 s113)) 52 (.ts .imm 1 (a0.apply.map (encLInt .imm)))) 53 (.int .i64 p16)) 54 (.int .i64 s79)), [some ⟨.box, 2, [[.int .i64 a1.weights, .ts .imm 1 (a1.apply.map (encLInt .imm))]]⟩, some ⟨.box, 2, [[.int .i64 0, .sl 2 0 0]]⟩, some ⟨.arr, 1, []⟩, some ⟨.box, 2, [[.int .i64 p17, .sl 4 0 s80.length]]⟩, some ⟨.arr, 1, s80.map (encLInt .own)⟩, some ⟨.arr, 1, o.map encInt⟩])
theorem e21_12 (p14 : Int) (p15 : Int) (x82 : (List Int)) (x87 : (List Int)) (s113 : Int) (x117 : Int) (x123 : Int) (a0 : Algebra) (p16 : Int) (s79 : Int) (v131 : Bool) (a1 : Algebra) (p17 : Int) (s80 : List (List Int)) (s114 : List Int) (o : (List Int)) (h : m21_12 p14 p15 x117 x123 v131 s114 = some o) : evCL T 0 k21_12 (frOf 118 (upd (upd (upd (upd (upd (upd (upd (upd (upd (upd (upd (upd (upd (upd (upd anyF 3 (.ptr 0 0 0)) 4 (.ptr 1 0 0)) 6 (.int .i64 p14)) 7 (.int .i64 p15)) 8 (.ptr 3 0 0)) 10 (.ts .imm 1 (x82.map encInt))) 11 (.ts .imm 1 (x87.map encInt))) 12 (.sl 5 0 s114.length)) 13 (.int .i64 s113)) 14 (.int .i64 x117)) 15 (.int .i64 x123)) 52 (.ts .imm 1 (a0.apply.map (encLInt .imm)))) 53 (.int .i64 p16)) 54 (.int .i64 s79)) 90 (.bool v131))) [some ⟨.box, 2, [[.int .i64 a1.weights, .ts .imm 1 (a1.apply.map (encLInt .imm))]]⟩, some ⟨.box, 2, [[.int .i64 0, .sl 2 0 0]]⟩, some ⟨.arr, 1, []⟩, some ⟨.box, 2, [[.int .i64 p17, .sl 4 0 s80.length]]⟩, some ⟨.arr, 1, s80.map (encLInt .own)⟩, some ⟨.arr, 1, s114.map encInt⟩] = some (X21_12 p14 p15 x82 x87 s113 x117 x123 a0 p16 s79 v131 a1 p17 s80 s114 o) := by
  unfold m21_12 at h
  try simp -implicitDefEqProofs only [go_sem, Nat.reduceLT, Nat.reduceAdd, Nat.reduceSub, Nat.reduceMul, Nat.reduceEqDiff, Nat.reduceBEq, Nat.reduceLeDiff, Int.reduceToNat, Int.reduceLT, Int.reduceLE, Int.reduceEq, reduceCtorEq, ↓reduceIte, X21_12, k21_12]
  cases b132 : (v131 : Bool)
  · replace h := br_f b132 h
    obtain ⟨g134, h⟩ := ck_some h
    try simp -implicitDefEqProofs only [go_sem, Nat.reduceLT, Nat.reduceAdd, Nat.reduceSub, Nat.reduceMul, Nat.reduceEqDiff, Nat.reduceBEq, Nat.reduceLeDiff, Int.reduceToNat, Int.reduceLT, Int.reduceLE, Int.reduceEq, reduceCtorEq, ↓reduceIte] at g134
    cases h
    simp -implicitDefEqProofs only [go_sem, Nat.reduceLT, Nat.reduceAdd, Nat.reduceSub, Nat.reduceMul, Nat.reduceEqDiff, Nat.reduceBEq, Nat.reduceLeDiff, Int.reduceToNat, Int.reduceLT, Int.reduceLE, Int.reduceEq, reduceCtorEq, ↓reduceIte, X21_12, k21_12, b132, g134]
  · replace h := br_t b132 h
    obtain ⟨g133, h⟩ := ck_some h
    try simp -implicitDefEqProofs only [go_sem, Nat.reduceLT, Nat.reduceAdd, Nat.reduceSub, Nat.reduceMul, Nat.reduceEqDiff, Nat.reduceBEq, Nat.reduceLeDiff, Int.reduceToNat, Int.reduceLT, Int.reduceLE, Int.reduceEq, reduceCtorEq, ↓reduceIte] at g133
    cases h
    simp -implicitDefEqProofs only [go_sem, Nat.reduceLT, Nat.reduceAdd, Nat.reduceSub, Nat.reduceMul, Nat.reduceEqDiff, Nat.reduceBEq, Nat.reduceLeDiff, Int.reduceToNat, Int.reduceLT, Int.reduceLE, Int.reduceEq, reduceCtorEq, ↓reduceIte, X21_12, k21_12, b132, g133]
noncomputable def X21_8 (p14 : Int) (p15 : Int) (x82 : (List Int)) (x87 : (List Int)) (a0 : Algebra) (p16 : Int) (s79 : Int) (a1 : Algebra) (p17 : Int) (s80 : List (List Int)) (o : (List Int)) : Ex × Fr × St :=
  (.exit 2, frOf 118 (upd (upd (upd (upd (upd (upd (upd (upd (upd anyF 3 (.ptr 0 0 0)) 4 (.ptr 1 0 0)) 6 (.int .i64 p14)) 7 (.int .i64 p15)) 8 (.ptr 3 0 0)) 12 (.sl 5 0 o.length)) 52 (.ts .imm 1 (a0.apply.map (encLInt .imm)))) 53 (.int .i64 p16)) 54 (.int .i64 s79)), [some ⟨.box, 2, [[.int .i64 a1.weights, .ts .imm 1 (a1.apply.map (encLInt .imm))]]⟩, some ⟨.box, 2, [[.int .i64 0, .sl 2 0 0]]⟩, some ⟨.arr, 1, []⟩, some ⟨.box, 2, [[.int .i64 p17, .sl 4 0 s80.length]]⟩, some ⟨.arr, 1, s80.map (encLInt .own)⟩, some ⟨.arr, 1, o.map encInt⟩])
noncomputable def E21_8 (p14 : Int) (p15 : Int) (x82 : (List Int)) (x87 : (List Int)) (a0 : Algebra) (p16 : Int) (s79 : Int) (a1 : Algebra) (p17 : Int) (s80 : List (List Int)) (s : (Int × List Int)) : Fr × St := (frOf 118 (upd (upd (upd (upd (upd (upd (upd (upd (upd (upd (upd (upd anyF 3 (.ptr 0 0 0)) 4 (.ptr 1 0 0)) 6 (.int .i64 p14)) 7 (.int .i64 p15)) 8 (.ptr 3 0 0)) 10 (.ts .imm 1 (x82.map encInt))) 11 (.ts .imm 1 (x87.map encInt))) 12 (.sl 5 0 s.2.length)) 13 (.int .i64 s.1)) 52 (.ts .imm 1 (a0.apply.map (encLInt .imm)))) 53 (.int .i64 p16)) 54 (.int .i64 s79)), [some ⟨.box, 2, [[.int .i64 a1.weights, .ts .imm 1 (a1.apply.map (encLInt .imm))]]⟩, some ⟨.box, 2, [[.int .i64 0, .sl 2 0 0]]⟩, some ⟨.arr, 1, []⟩, some ⟨.box, 2, [[.int .i64 p17, .sl 4 0 s80.length]]⟩, some ⟨.arr, 1, s80.map (encLInt .own)⟩, some ⟨.arr, 1, s.2.map encInt⟩])
theorem b21_8 (p14 : Int) (p15 : Int) (x82 : (List Int)) (x87 : (List Int)) (a0 : Algebra) (p16 : Int) (s79 : Int) (a1 : Algebra) (p17 : Int) (s80 : List (List Int)) (s : (Int × List Int)) (o : Ctl (Int × List Int) (List Int)) (h : m21_8b p14 p15 x82 x87 s = some o) : evCL T 0 k21_8b (E21_8 p14 p15 x82 x87 a0 p16 s79 a1 p17 s80 s).1 (E21_8 p14 p15 x82 x87 a0 p16 s79 a1 p17 s80 s).2 = some (ctlX (E21_8 p14 p15 x82 x87 a0 p16 s79 a1 p17 s80) (X21_8 p14 p15 x82 x87 a0 p16 s79 a1 p17 s80) o) := by
  unfold m21_8b at h
  obtain ⟨s113, s114⟩ := s
  replace h := sel2_some h
  try simp -implicitDefEqProofs only [go_sem, Nat.reduceLT, Nat.reduceAdd, Nat.reduceSub, Nat.reduceMul, Nat.reduceEqDiff, Nat.reduceBEq, Nat.reduceLeDiff, Int.reduceToNat, Int.reduceLT, Int.reduceLE, Int.reduceEq, reduceCtorEq, ↓reduceIte, E21_8, X21_8, k21_8b]
  cases b115 : (ltI s113 (wmul .i64 p14 p15) : Bool)
  · replace h := br_f b115 h
    cases h
    simp -implicitDefEqProofs only [go_sem, Nat.reduceLT, Nat.reduceAdd, Nat.reduceSub, Nat.reduceMul, Nat.reduceEqDiff, Nat.reduceBEq, Nat.reduceLeDiff, Int.reduceToNat, Int.reduceLT, Int.reduceLE, Int.reduceEq, reduceCtorEq, ↓reduceIte, E21_8, X21_8, k21_8b, b115]
  · replace h := br_t b115 h
    obtain ⟨g116, h⟩ := ck_some h
    try simp -implicitDefEqProofs only [go_sem, Nat.reduceLT, Nat.reduceAdd, Nat.reduceSub, Nat.reduceMul, Nat.reduceEqDiff, Nat.reduceBEq, Nat.reduceLeDiff, Int.reduceToNat, Int.reduceLT, Int.reduceLE, Int.reduceEq, reduceCtorEq, ↓reduceIte] at g116
    obtain ⟨x117, q118, h⟩ := bnd_some h
    obtain ⟨g119, g120, g121⟩ := idx_row encInt q118
    try simp -implicitDefEqProofs only [go_sem, Nat.reduceLT, Nat.reduceAdd, Nat.reduceSub, Nat.reduceMul, Nat.reduceEqDiff, Nat.reduceBEq, Nat.reduceLeDiff, Int.reduceToNat, Int.reduceLT, Int.reduceLE, Int.reduceEq, reduceCtorEq, ↓reduceIte] at g120
    try simp -implicitDefEqProofs only [go_sem, Nat.reduceLT, Nat.reduceAdd, Nat.reduceSub, Nat.reduceMul, Nat.reduceEqDiff, Nat.reduceBEq, Nat.reduceLeDiff, Int.reduceToNat, Int.reduceLT, Int.reduceLE, Int.reduceEq, reduceCtorEq, ↓reduceIte] at g121
    obtain ⟨g122, h⟩ := ck_some h
    try simp -implicitDefEqProofs only [go_sem, Nat.reduceLT, Nat.reduceAdd, Nat.reduceSub, Nat.reduceMul, Nat.reduceEqDiff, Nat.reduceBEq, Nat.reduceLeDiff, Int.reduceToNat, Int.reduceLT, Int.reduceLE, Int.reduceEq, reduceCtorEq, ↓reduceIte] at g122
    obtain ⟨x123, q124, h⟩ := bnd_some h
    obtain ⟨g125, g126, g127⟩ := idx_row encInt q124
    try simp -implicitDefEqProofs only [go_sem, Nat.reduceLT, Nat.reduceAdd, Nat.reduceSub, Nat.reduceMul, Nat.reduceEqDiff, Nat.reduceBEq, Nat.reduceLeDiff, Int.reduceToNat, Int.reduceLT, Int.reduceLE, Int.reduceEq, reduceCtorEq, ↓reduceIte] at g126
    try simp -implicitDefEqProofs only [go_sem, Nat.reduceLT, Nat.reduceAdd, Nat.reduceSub, Nat.reduceMul, Nat.reduceEqDiff, Nat.reduceBEq, Nat.reduceLeDiff, Int.reduceToNat, Int.reduceLT, Int.reduceLE, Int.reduceEq, reduceCtorEq, ↓reduceIte] at g127
    obtain ⟨v131, q129, h⟩ := bnd_some h
    have w130 := e21_11 p14 p15 x82 x87 s113 x117 x123 a0 p16 s79 a1 p17 s80 s114 v131 q129
    simp only [X21_11] at w130
    try simp -implicitDefEqProofs only [go_sem, Nat.reduceLT, Nat.reduceAdd, Nat.reduceSub, Nat.reduceMul, Nat.reduceEqDiff, Nat.reduceBEq, Nat.reduceLeDiff, Int.reduceToNat, Int.reduceLT, Int.reduceLE, Int.reduceEq, reduceCtorEq, ↓reduceIte] at w130
    obtain ⟨v137, q135, h⟩ := bnd_some h
    have w136 := e21_12 p14 p15 x82 x87 s113 x117 x123 a0 p16 s79 v131 a1 p17 s80 s114 v137 q135
    simp only [X21_12] at w136
    try simp -implicitDefEqProofs only [go_sem, Nat.reduceLT, Nat.reduceAdd, Nat.reduceSub, Nat.reduceMul, Nat.reduceEqDiff, Nat.reduceBEq, Nat.reduceLeDiff, Int.reduceToNat, Int.reduceLT, Int.reduceLE, Int.reduceEq, reduceCtorEq, ↓reduceIte] at w136
    cases h
    simp -implicitDefEqProofs only [go_sem, Nat.reduceLT, Nat.reduceAdd, Nat.reduceSub, Nat.reduceMul, Nat.reduceEqDiff, Nat.reduceBEq, Nat.reduceLeDiff, Int.reduceToNat, Int.reduceLT, Int.reduceLE, Int.reduceEq, reduceCtorEq, ↓reduceIte, E21_8, X21_8, k21_8b, b115, g116, g119, g120, g121, g122, g125, g126, g127, w130, w136]
theorem e21_8 (p14 : Int) (p15 : Int) (x82 : (List Int)) (x87 : (List Int)) (a0 : Algebra) (p16 : Int) (s79 : Int) (a1 : Algebra) (p17 : Int) (s80 : List (List Int)) (s : (Int × List Int)) (o : (List Int)) (h : loopP (m21_8b p14 p15 x82 x87) s = some o) : evCL T 0 (.loop k21_8b) (E21_8 p14 p15 x82 x87 a0 p16 s79 a1 p17 s80 s).1 (E21_8 p14 p15 x82 x87 a0 p16 s79 a1 p17 s80 s).2 = some (X21_8 p14 p15 x82 x87 a0 p16 s79 a1 p17 s80 o) :=
  loop_walk (E := E21_8 p14 p15 x82 x87 a0 p16 s79 a1 p17 s80) (X := X21_8 p14 p15 x82 x87 a0 p16 s79 a1 p17 s80) (by intro b; (simp only [X21_8]; nofun)) (b21_8 p14 p15 x82 x87 a0 p16 s79 a1 p17 s80) s o h
noncomputable def X21_2 (p14 : Int) (p15 : Int) (a0 : Algebra) (p16 : Int) (a1 : Algebra) (p17 : Int) (o : (List (List Int))) : Ex × Fr × St :=
  (.exit 0, frOf 118 (upd (upd anyF 4 (.ptr 0 0 0)) 8 (.ptr 2 0 0)), [some ⟨.box, 2, [[.int .i64 0, .sl 1 0 0]]⟩, some ⟨.arr, 1, []⟩, some ⟨.box, 2, [[.int .i64 p17, .sl 3 0 o.length]]⟩, some ⟨.arr, 1, o.map (encLInt .own)⟩])
noncomputable def E21_2 (p14 : Int) (p15 : Int) (a0 : Algebra) (p16 : Int) (a1 : Algebra) (p17 : Int) (s : (Int × List (List Int))) : Fr × St := (frOf 118 (upd (upd (upd (upd (upd (upd (upd (upd anyF 3 (.ptr 0 0 0)) 4 (.ptr 1 0 0)) 6 (.int .i64 p14)) 7 (.int .i64 p15)) 8 (.ptr 3 0 0)) 52 (.ts .imm 1 (a0.apply.map (encLInt .imm)))) 53 (.int .i64 p16)) 54 (.int .i64 s.1)), [some ⟨.box, 2, [[.int .i64 a1.weights, .ts .imm 1 (a1.apply.map (encLInt .imm))]]⟩, some ⟨.box, 2, [[.int .i64 0, .sl 2 0 0]]⟩, some ⟨.arr, 1, []⟩, some ⟨.box, 2, [[.int .i64 p17, .sl 4 0 s.2.length]]⟩, some ⟨.arr, 1, s.2.map (encLInt .own)⟩])
theorem b21_2 (p14 : Int) (p15 : Int) (a0 : Algebra) (p16 : Int) (a1 : Algebra) (p17 : Int) (s : (Int × List (List Int))) (o : Ctl (Int × List (List Int)) (List (List Int))) (h : m21_2b p14 p15 a0 p16 a1 s = some o) : evCL T 0 k21_2b (E21_2 p14 p15 a0 p16 a1 p17 s).1 (E21_2 p14 p15 a0 p16 a1 p17 s).2 = some (ctlX (E21_2 p14 p15 a0 p16 a1 p17) (X21_2 p14 p15 a0 p16 a1 p17) o) := by
  unfold m21_2b at h
  obtain ⟨s79, s80⟩ := s
  replace h := sel2_some h
  try simp -implicitDefEqProofs only [go_sem, Nat.reduceLT, Nat.reduceAdd, Nat.reduceSub, Nat.reduceMul, Nat.reduceEqDiff, Nat.reduceBEq, Nat.reduceLeDiff, Int.reduceToNat, Int.reduceLT, Int.reduceLE, Int.reduceEq, reduceCtorEq, ↓reduceIte, E21_2, X21_2, k21_2b]
  cases b81 : (ltI s79 p16 : Bool)
  · replace h := br_f b81 h
    cases h
    simp -implicitDefEqProofs only [go_sem, Nat.reduceLT, Nat.reduceAdd, Nat.reduceSub, Nat.reduceMul, Nat.reduceEqDiff, Nat.reduceBEq, Nat.reduceLeDiff, Int.reduceToNat, Int.reduceLT, Int.reduceLE, Int.reduceEq, reduceCtorEq, ↓reduceIte, E21_2, X21_2, k21_2b, b81]
  · replace h := br_t b81 h
    obtain ⟨x82, q83, h⟩ := bnd_some h
    obtain ⟨g84, g85, g86⟩ := idx_row (encLInt .imm) q83
    try simp -implicitDefEqProofs only [go_sem, Nat.reduceLT, Nat.reduceAdd, Nat.reduceSub, Nat.reduceMul, Nat.reduceEqDiff, Nat.reduceBEq, Nat.reduceLeDiff, Int.reduceToNat, Int.reduceLT, Int.reduceLE, Int.reduceEq, reduceCtorEq, ↓reduceIte] at g85
    try simp -implicitDefEqProofs only [go_sem, Nat.reduceLT, Nat.reduceAdd, Nat.reduceSub, Nat.reduceMul, Nat.reduceEqDiff, Nat.reduceBEq, Nat.reduceLeDiff, Int.reduceToNat, Int.reduceLT, Int.reduceLE, Int.reduceEq, reduceCtorEq, ↓reduceIte] at g86
    obtain ⟨x87, q88, h⟩ := bnd_some h
    obtain ⟨g89, g90, g91⟩ := idx_row (encLInt .imm) q88
    try simp -implicitDefEqProofs only [go_sem, Nat.reduceLT, Nat.reduceAdd, Nat.reduceSub, Nat.reduceMul, Nat.reduceEqDiff, Nat.reduceBEq, Nat.reduceLeDiff, Int.reduceToNat, Int.reduceLT, Int.reduceLE, Int.reduceEq, reduceCtorEq, ↓reduceIte] at g90
    try simp -implicitDefEqProofs only [go_sem, Nat.reduceLT, Nat.reduceAdd, Nat.reduceSub, Nat.reduceMul, Nat.reduceEqDiff, Nat.reduceBEq, Nat.reduceLeDiff, Int.reduceToNat, Int.reduceLT, Int.reduceLE, Int.reduceEq, reduceCtorEq, ↓reduceIte] at g91
    obtain ⟨v140, q138, h⟩ := bnd_some h
    have w139 := e21_8 p14 p15 x82 x87 a0 p16 s79 a1 p17 s80 (0, []) v140 q138
    simp only [E21_8, X21_8] at w139
    try simp -implicitDefEqProofs only [go_sem, Nat.reduceLT, Nat.reduceAdd, Nat.reduceSub, Nat.reduceMul, Nat.reduceEqDiff, Nat.reduceBEq, Nat.reduceLeDiff, Int.reduceToNat, Int.reduceLT, Int.reduceLE, Int.reduceEq, reduceCtorEq, ↓reduceIte] at w139
    obtain ⟨g141, h⟩ := ck_some h
    try simp -implicitDefEqProofs only [go_sem, Nat.reduceLT, Nat.reduceAdd, Nat.reduceSub, Nat.reduceMul, Nat.reduceEqDiff, Nat.reduceBEq, Nat.reduceLeDiff, Int.reduceToNat, Int.reduceLT, Int.reduceLE, Int.reduceEq, reduceCtorEq, ↓reduceIte] at g141
    obtain ⟨g142, h⟩ := ck_some h
    try simp -implicitDefEqProofs only [go_sem, Nat.reduceLT, Nat.reduceAdd, Nat.reduceSub, Nat.reduceMul, Nat.reduceEqDiff, Nat.reduceBEq, Nat.reduceLeDiff, Int.reduceToNat, Int.reduceLT, Int.reduceLE, Int.reduceEq, reduceCtorEq, ↓reduceIte] at g142
    cases h
    simp -implicitDefEqProofs only [go_sem, Nat.reduceLT, Nat.reduceAdd, Nat.reduceSub, Nat.reduceMul, Nat.reduceEqDiff, Nat.reduceBEq, Nat.reduceLeDiff, Int.reduceToNat, Int.reduceLT, Int.reduceLE, Int.reduceEq, reduceCtorEq, ↓reduceIte, E21_2, X21_2, k21_2b, b81, g84, g85, g86, g89, g90, g91, w139, g141, g142]
theorem e21_2 (p14 : Int) (p15 : Int) (a0 : Algebra) (p16 : Int) (a1 : Algebra) (p17 : Int) (s : (Int × List (List Int))) (o : (List (List Int))) (h : loopP (m21_2b p14 p15 a0 p16 a1) s = some o) : evCL T 0 (.loop k21_2b) (E21_2 p14 p15 a0 p16 a1 p17 s).1 (E21_2 p14 p15 a0 p16 a1 p17 s).2 = some (X21_2 p14 p15 a0 p16 a1 p17 o) :=
  loop_walk (E := E21_2 p14 p15 a0 p16 a1 p17) (X := X21_2 p14 p15 a0 p16 a1 p17) (by intro b; (simp only [X21_2]; nofun)) (b21_2 p14 p15 a0 p16 a1 p17) s o h
theorem e21 (a0 : Algebra) (a1 : Algebra) (r : (Algebra × Bool)) (h : m21 a0 a1 = some r) : evFL T 21 [.agg [.int .i64 a0.weights, .ts .imm 1 (a0.apply.map (encLInt .imm))], .agg [.int .i64 a1.weights, .ts .imm 1 (a1.apply.map (encLInt .imm))]] [] = some (.tup [.agg [.int .i64 r.1.weights, .sl 0 0 r.1.apply.length], .bool r.2], [some ⟨.arr, 1, r.1.apply.map (encLInt .own)⟩]) := by
  unfold m21 at h
  rw [evFL_at fn21 (Nat.le_of_ble_eq_true rfl) rfl (.inr rfl) ⟨rfl, rfl⟩]
  obtain ⟨v11, q9, h⟩ := bnd_some h
  have w10 := e21_1 a0 a1 v11 q9
  simp only [X21_1] at w10
  try simp -implicitDefEqProofs only [go_sem, Nat.reduceLT, Nat.reduceAdd, Nat.reduceSub, Nat.reduceMul, Nat.reduceEqDiff, Nat.reduceBEq, Nat.reduceLeDiff, Int.reduceToNat, Int.reduceLT, Int.reduceLE, Int.reduceEq, reduceCtorEq, ↓reduceIte] at w10
  try simp -implicitDefEqProofs only [go_sem, Nat.reduceLT, Nat.reduceAdd, Nat.reduceSub, Nat.reduceMul, Nat.reduceEqDiff, Nat.reduceBEq, Nat.reduceLeDiff, Int.reduceToNat, Int.reduceLT, Int.reduceLE, Int.reduceEq, reduceCtorEq, ↓reduceIte, i21, c21, w10]
  cases b12 : (v11 : Bool)
  · replace h := br_f b12 h
    try simp -implicitDefEqProofs only [go_sem, Nat.reduceLT, Nat.reduceAdd, Nat.reduceSub, Nat.reduceMul, Nat.reduceEqDiff, Nat.reduceBEq, Nat.reduceLeDiff, Int.reduceToNat, Int.reduceLT, Int.reduceLE, Int.reduceEq, reduceCtorEq, ↓reduceIte, i21, c21, w10, b12]
    cases b13 : (ltI 12 (wadd .i64 (wmul .i64 (wsub .i64 a0.weights 1) (wsub .i64 a1.weights 1)) 1) : Bool)
    · replace h := br_f b13 h
      obtain ⟨v145, q143, h⟩ := bnd_some h
      have w144 := e21_2 (wsub .i64 a0.weights 1) (wsub .i64 a1.weights 1) a0 (↑a0.apply.length : Int) a1 (wadd .i64 (wmul .i64 (wsub .i64 a0.weights 1) (wsub .i64 a1.weights 1)) 1) (0, []) v145 q143
      simp only [E21_2, X21_2] at w144
      try simp -implicitDefEqProofs only [go_sem, Nat.reduceLT, Nat.reduceAdd, Nat.reduceSub, Nat.reduceMul, Nat.reduceEqDiff, Nat.reduceBEq, Nat.reduceLeDiff, Int.reduceToNat, Int.reduceLT, Int.reduceLE, Int.reduceEq, reduceCtorEq, ↓reduceIte] at w144
      cases h
      simp -implicitDefEqProofs only [go_sem, Nat.reduceLT, Nat.reduceAdd, Nat.reduceSub, Nat.reduceMul, Nat.reduceEqDiff, Nat.reduceBEq, Nat.reduceLeDiff, Int.reduceToNat, Int.reduceLT, Int.reduceLE, Int.reduceEq, reduceCtorEq, ↓reduceIte, i21, c21, w10, b12, b13, w144]
    · replace h := br_t b13 h
      cases h
      simp -implicitDefEqProofs only [go_sem, Nat.reduceLT, Nat.reduceAdd, Nat.reduceSub, Nat.reduceMul, Nat.reduceEqDiff, Nat.reduceBEq, Nat.reduceLeDiff, Int.reduceToNat, Int.reduceLT, Int.reduceLE, Int.reduceEq, reduceCtorEq, ↓reduceIte, i21, c21, w10, b12, b13]
  · replace h := br_t b12 h
    cases h
    simp -implicitDefEqProofs only [go_sem, Nat.reduceLT, Nat.reduceAdd, Nat.reduceSub, Nat.reduceMul, Nat.reduceEqDiff, Nat.reduceBEq, Nat.reduceLeDiff, Int.reduceToNat, Int.reduceLT, Int.reduceLE, Int.reduceEq, reduceCtorEq, ↓reduceIte, i21, c21, w10, b12]
-- f48 impl.within
theorem call48 (args : List AV) (S : St) : evCall T (evFL T) 48 args S = lendC (evFL T 48) S (lendAll S [[0], [0], [0]] args) := evCall0 fn48 rfl rfl rfl args S
theorem callz48 (args : List AV) (S : St) : evCallFz T (evFL T) 48 args S = lendZ (evFL T 48) S [[0]] (lendAll S [[0], [0], [0]] args) := evCallFz0 fn48 rfl rfl rfl args S
theorem calls48 (args : List AV) (S : St) : evCall (T.at true) (evFL T) 48 args S = lendC (evFL T 48) S (lendAll S [[0], [0], [0]] args) := evCall0 fns48 rfl rfl rfl args S
theorem callsz48 (args : List AV) (S : St) : evCallFz (T.at true) (evFL T) 48 args S = lendZ (evFL T 48) S [[0]] (lendAll S [[0], [0], [0]] args) := evCallFz0 fns48 rfl rfl rfl args S
attribute [go_sem] call48 callz48 calls48 callsz48
noncomputable def X48_1 (a0 : Int) (a1 : Int) (a2 : Int) (o : Bool) : Ex × Fr × St :=
  (.normal, frOf 15 (upd anyF 6 (.bool o)), [])
theorem e48_1 (a0 : Int) (a1 : Int) (a2 : Int) (o : Bool) (h : m48_1 a0 a1 a2 = some o) : evCL T 0 k48_1 (frOf 15 (upd (upd (upd anyF 0 (.int .i64 a0)) 1 (.int .i64 a1)) 2 (.int .i64 a2))) [] = some (X48_1 a0 a1 a2 o) := by
  unfold m48_1 at h
  try simp -implicitDefEqProofs only [go_sem, Nat.reduceLT, Nat.reduceAdd, Nat.reduceSub, Nat.reduceMul, Nat.reduceEqDiff, Nat.reduceBEq, Nat.reduceLeDiff, Int.reduceToNat, Int.reduceLT, Int.reduceLE, Int.reduceEq, reduceCtorEq, ↓reduceIte, X48_1, k48_1]
  cases b1 : (leI a1 a0 : Bool)
  · replace h := br_f b1 h
    cases h
    simp -implicitDefEqProofs only [go_sem, Nat.reduceLT, Nat.reduceAdd, Nat.reduceSub, Nat.reduceMul, Nat.reduceEqDiff, Nat.reduceBEq, Nat.reduceLeDiff, Int.reduceToNat, Int.reduceLT, Int.reduceLE, Int.reduceEq, reduceCtorEq, ↓reduceIte, X48_1, k48_1, b1]
  · replace h := br_t b1 h
    cases h
    simp -implicitDefEqProofs only [go_sem, Nat.reduceLT, Nat.reduceAdd, Nat.reduceSub, Nat.reduceMul, Nat.reduceEqDiff, Nat.reduceBEq, Nat.reduceLeDiff, Int.reduceToNat, Int.reduceLT, Int.reduceLE, Int.reduceEq, reduceCtorEq, ↓reduceIte, X48_1, k48_1, b1]
theorem e48 (a0 : Int) (a1 : Int) (a2 : Int) (r : Bool) (h : m48 a0 a1 a2 = some r) : evFL T 48 [.int .i64 a0, .int .i64 a1, .int .i64 a2] [] = some (.bool r, []) := by
  unfold m48 at h
  rw [evFL_at fn48 (Nat.le_of_ble_eq_true rfl) rfl (.inr rfl) ⟨rfl, rfl⟩]
  obtain ⟨v4, q2, h⟩ := bnd_some h
  have w3 := e48_1 a0 a1 a2 v4 q2
  simp only [X48_1] at w3
  try simp -implicitDefEqProofs only [go_sem, Nat.reduceLT, Nat.reduceAdd, Nat.reduceSub, Nat.reduceMul, Nat.reduceEqDiff, Nat.reduceBEq, Nat.reduceLeDiff, Int.reduceToNat, Int.reduceLT, Int.reduceLE, Int.reduceEq, reduceCtorEq, ↓reduceIte] at w3
  cases h
  simp -implicitDefEqProofs only [go_sem, Nat.reduceLT, Nat.reduceAdd, Nat.reduceSub, Nat.reduceMul, Nat.reduceEqDiff, Nat.reduceBEq, Nat.reduceLeDiff, Int.reduceToNat, Int.reduceLT, Int.reduceLE, Int.reduceEq, reduceCtorEq, ↓reduceIte, i48, c48, w3]
-- f77 slices.IndexFunc[[][]int,[]int]
theorem call77 (args : List AV) (S : St) : evCall T (evFL T) 77 args S = lendC (evFL T 77) S (lendAll S [[1], [0]] args) := evCall0 fn77 rfl rfl rfl args S
theorem callz77 (args : List AV) (S : St) : evCallFz T (evFL T) 77 args S = lendZ (evFL T 77) S [[0]] (lendAll S [[1], [0]] args) := evCallFz0 fn77 rfl rfl rfl args S
theorem calls77 (args : List AV) (S : St) : evCall (T.at true) (evFL T) 77 args S = lendC (evFL T 77) S (lendAll S [[1], [0]] args) := evCall0 fns77 rfl rfl rfl args S
theorem callsz77 (args : List AV) (S : St) : evCallFz (T.at true) (evFL T) 77 args S = lendZ (evFL T 77) S [[0]] (lendAll S [[1], [0]] args) := evCallFz0 fns77 rfl rfl rfl args S
attribute [go_sem] call77 callz77 calls77 callsz77
noncomputable def X77_1 (a1_f : Nat) (a1_c : List AV) (a0 : (List (List Int))) (p1 : Int) (a1 : ((List Int) → Option Bool)) (o : (Unit ⊕ Int)) : Ex × Fr × St :=
  match o with
  | .inl o => (.exit 0, frOf 19 (anyF), [])
  | .inr o => (.ret, frOf 19 (upd anyF 4 (.int .i64 o)), [])
noncomputable def E77_1 (a1_f : Nat) (a1_c : List AV) (a0 : (List (List Int))) (p1 : Int) (a1 : ((List Int) → Option Bool)) (s : Int) : Fr × St := (frOf 19 (upd (upd (upd (upd anyF 0 (.ts .imm 1 (a0.map (encLInt .imm)))) 1 (.fn a1_f a1_c)) 7 (.int .i64 p1)) 8 (.int .i64 s)), [])
theorem b77_1 (a0 : (List (List Int))) (p1 : Int) (a1 : ((List Int) → Option Bool)) (a1_f : Nat) (a1_c : List AV) (a1_h : ((∀ S, mapO (lendPtr S) a1_c = some a1_c) ∧ (∀ n0 src R tm t c, tdL n0 src R tm t c a1_c = some a1_c)) ∧ ∀ y0 r, a1 y0 = some r → (∀ S, evCall T (evFL T) a1_f ([.ts .imm 1 (y0.map encInt)] ++ a1_c) S = some (.bool r, S)) ∧ (∀ S, evCallFz T (evFL T) a1_f ([.ts .imm 1 (y0.map encInt)] ++ a1_c) S = some (.bool r, S))) (s : Int) (o : Ctl Int (Unit ⊕ Int)) (h : m77_1b a0 p1 a1 s = some o) : evCL T 0 k77_1b (E77_1 a1_f a1_c a0 p1 a1 s).1 (E77_1 a1_f a1_c a0 p1 a1 s).2 = some (ctlX (E77_1 a1_f a1_c a0 p1 a1) (X77_1 a1_f a1_c a0 p1 a1) o) := by
  unfold m77_1b at h
  revert h
  generalize s = s12
  intro h
  try simp -implicitDefEqProofs only [go_sem, Nat.reduceLT, Nat.reduceAdd, Nat.reduceSub, Nat.reduceMul, Nat.reduceEqDiff, Nat.reduceBEq, Nat.reduceLeDiff, Int.reduceToNat, Int.reduceLT, Int.reduceLE, Int.reduceEq, reduceCtorEq, ↓reduceIte, E77_1, X77_1, k77_1b, a1_h.1]
  cases b13 : (ltI s12 p1 : Bool)
  · replace h := br_f b13 h
    cases h
    simp -implicitDefEqProofs only [go_sem, Nat.reduceLT, Nat.reduceAdd, Nat.reduceSub, Nat.reduceMul, Nat.reduceEqDiff, Nat.reduceBEq, Nat.reduceLeDiff, Int.reduceToNat, Int.reduceLT, Int.reduceLE, Int.reduceEq, reduceCtorEq, ↓reduceIte, E77_1, X77_1, k77_1b, a1_h.1, b13]
  · replace h := br_t b13 h
    obtain ⟨x14, q15, h⟩ := bnd_some h
    obtain ⟨g16, g17, g18⟩ := idx_row (encLInt .imm) q15
    try simp -implicitDefEqProofs only [go_sem, Nat.reduceLT, Nat.reduceAdd, Nat.reduceSub, Nat.reduceMul, Nat.reduceEqDiff, Nat.reduceBEq, Nat.reduceLeDiff, Int.reduceToNat, Int.reduceLT, Int.reduceLE, Int.reduceEq, reduceCtorEq, ↓reduceIte] at g17
    try simp -implicitDefEqProofs only [go_sem, Nat.reduceLT, Nat.reduceAdd, Nat.reduceSub, Nat.reduceMul, Nat.reduceEqDiff, Nat.reduceBEq, Nat.reduceLeDiff, Int.reduceToNat, Int.reduceLT, Int.reduceLE, Int.reduceEq, reduceCtorEq, ↓reduceIte] at g18
    obtain ⟨r19, q20, h⟩ := bnd_some h
    have w21 := a1_h.2 x14 r19 q20
    try simp -implicitDefEqProofs only [go_sem, Nat.reduceLT, Nat.reduceAdd, Nat.reduceSub, Nat.reduceMul, Nat.reduceEqDiff, Nat.reduceBEq, Nat.reduceLeDiff, Int.reduceToNat, Int.reduceLT, Int.reduceLE, Int.reduceEq, reduceCtorEq, ↓reduceIte] at w21
    try simp -implicitDefEqProofs only [go_sem, Nat.reduceLT, Nat.reduceAdd, Nat.reduceSub, Nat.reduceMul, Nat.reduceEqDiff, Nat.reduceBEq, Nat.reduceLeDiff, Int.reduceToNat, Int.reduceLT, Int.reduceLE, Int.reduceEq, reduceCtorEq, ↓reduceIte, E77_1, X77_1, k77_1b, a1_h.1, b13, g16, g17, g18, w21.1, w21.2]
    cases b22 : (r19 : Bool)
    · replace h := br_f b22 h
      cases h
      simp -implicitDefEqProofs only [go_sem, Nat.reduceLT, Nat.reduceAdd, Nat.reduceSub, Nat.reduceMul, Nat.reduceEqDiff, Nat.reduceBEq, Nat.reduceLeDiff, Int.reduceToNat, Int.reduceLT, Int.reduceLE, Int.reduceEq, reduceCtorEq, ↓reduceIte, E77_1, X77_1, k77_1b, a1_h.1, b13, g16, g17, g18, w21.1, w21.2, b22]
    · replace h := br_t b22 h
      cases h
      simp -implicitDefEqProofs only [go_sem, Nat.reduceLT, Nat.reduceAdd, Nat.reduceSub, Nat.reduceMul, Nat.reduceEqDiff, Nat.reduceBEq, Nat.reduceLeDiff, Int.reduceToNat, Int.reduceLT, Int.reduceLE, Int.reduceEq, reduceCtorEq, ↓reduceIte, E77_1, X77_1, k77_1b, a1_h.1, b13, g16, g17, g18, w21.1, w21.2, b22]
theorem e77_1 (a0 : (List (List Int))) (p1 : Int) (a1 : ((List Int) → Option Bool)) (a1_f : Nat) (a1_c : List AV) (a1_h : ((∀ S, mapO (lendPtr S) a1_c = some a1_c) ∧ (∀ n0 src R tm t c, tdL n0 src R tm t c a1_c = some a1_c)) ∧ ∀ y0 r, a1 y0 = some r → (∀ S, evCall T (evFL T) a1_f ([.ts .imm 1 (y0.map encInt)] ++ a1_c) S = some (.bool r, S)) ∧ (∀ S, evCallFz T (evFL T) a1_f ([.ts .imm 1 (y0.map encInt)] ++ a1_c) S = some (.bool r, S))) (s : Int) (o : (Unit ⊕ Int)) (h : loopP (m77_1b a0 p1 a1) s = some o) : evCL T 0 (.loop k77_1b) (E77_1 a1_f a1_c a0 p1 a1 s).1 (E77_1 a1_f a1_c a0 p1 a1 s).2 = some (X77_1 a1_f a1_c a0 p1 a1 o) :=
  loop_walk (E := E77_1 a1_f a1_c a0 p1 a1) (X := X77_1 a1_f a1_c a0 p1 a1) (by intro b; rcases b with b | b <;> (simp only [X77_1]; nofun)) (b77_1 a0 p1 a1 a1_f a1_c a1_h) s o h
theorem e77 (a0 : (List (List Int))) (a1 : ((List Int) → Option Bool)) (a1_f : Nat) (a1_c : List AV) (a1_h : ((∀ S, mapO (lendPtr S) a1_c = some a1_c) ∧ (∀ n0 src R tm t c, tdL n0 src R tm t c a1_c = some a1_c)) ∧ ∀ y0 r, a1 y0 = some r → (∀ S, evCall T (evFL T) a1_f ([.ts .imm 1 (y0.map encInt)] ++ a1_c) S = some (.bool r, S)) ∧ (∀ S, evCallFz T (evFL T) a1_f ([.ts .imm 1 (y0.map encInt)] ++ a1_c) S = some (.bool r, S))) (r : Int) (h : m77 a0 a1 = some r) : evFL T 77 [.ts .imm 1 (a0.map (encLInt .imm)), .fn a1_f a1_c] [] = some (.int .i64 r, []) := by
  unfold m77 at h
  rw [evFL_at fn77 (Nat.le_of_ble_eq_true rfl) rfl (.inr rfl) ⟨rfl, rfl⟩]
  try simp -implicitDefEqProofs only [go_sem, Nat.reduceLT, Nat.reduceAdd, Nat.reduceSub, Nat.reduceMul, Nat.reduceEqDiff, Nat.reduceBEq, Nat.reduceLeDiff, Int.reduceToNat, Int.reduceLT, Int.reduceLE, Int.reduceEq, reduceCtorEq, ↓reduceIte, i77, c77, a1_h.1]
  obtain ⟨o, q23, h⟩ := bnd_some h
  rcases o with ⟨⟩ | v25
  · replace h := selS_l h
    have w24 := e77_1 a0 (↑a0.length : Int) a1 a1_f a1_c a1_h 0 (.inl ()) q23
    simp only [E77_1, X77_1] at w24
    try simp -implicitDefEqProofs only [go_sem, Nat.reduceLT, Nat.reduceAdd, Nat.reduceSub, Nat.reduceMul, Nat.reduceEqDiff, Nat.reduceBEq, Nat.reduceLeDiff, Int.reduceToNat, Int.reduceLT, Int.reduceLE, Int.reduceEq, reduceCtorEq, ↓reduceIte] at w24
    cases h
    simp -implicitDefEqProofs only [go_sem, Nat.reduceLT, Nat.reduceAdd, Nat.reduceSub, Nat.reduceMul, Nat.reduceEqDiff, Nat.reduceBEq, Nat.reduceLeDiff, Int.reduceToNat, Int.reduceLT, Int.reduceLE, Int.reduceEq, reduceCtorEq, ↓reduceIte, i77, c77, a1_h.1, w24]
  · replace h := selS_r h
    have w24 := e77_1 a0 (↑a0.length : Int) a1 a1_f a1_c a1_h 0 (.inr v25) q23
    simp only [E77_1, X77_1] at w24
    try simp -implicitDefEqProofs only [go_sem, Nat.reduceLT, Nat.reduceAdd, Nat.reduceSub, Nat.reduceMul, Nat.reduceEqDiff, Nat.reduceBEq, Nat.reduceLeDiff, Int.reduceToNat, Int.reduceLT, Int.reduceLE, Int.reduceEq, reduceCtorEq, ↓reduceIte] at w24
    cases h
    simp -implicitDefEqProofs only [go_sem, Nat.reduceLT, Nat.reduceAdd, Nat.reduceSub, Nat.reduceMul, Nat.reduceEqDiff, Nat.reduceBEq, Nat.reduceLeDiff, Int.reduceToNat, Int.reduceLT, Int.reduceLE, Int.reduceEq, reduceCtorEq, ↓reduceIte, i77, c77, a1_h.1, w24]
-- f49 slices.ContainsFunc[[][]int,[]int]
theorem call49 (args : List AV) (S : St) : evCall T (evFL T) 49 args S = lendC (evFL T 49) S (lendAll S [[1], [0]] args) := evCall0 fn49 rfl rfl rfl args S
theorem callz49 (args : List AV) (S : St) : evCallFz T (evFL T) 49 args S = lendZ (evFL T 49) S [[0]] (lendAll S [[1], [0]] args) := evCallFz0 fn49 rfl rfl rfl args S
theorem calls49 (args : List AV) (S : St) : evCall (T.at true) (evFL T) 49 args S = lendC (evFL T 49) S (lendAll S [[1], [0]] args) := evCall0 fns49 rfl rfl rfl args S
theorem callsz49 (args : List AV) (S : St) : evCallFz (T.at true) (evFL T) 49 args S = lendZ (evFL T 49) S [[0]] (lendAll S [[1], [0]] args) := evCallFz0 fns49 rfl rfl rfl args S
attribute [go_sem] call49 callz49 calls49 callsz49
theorem e49 (a0 : (List (List Int))) (a1 : ((List Int) → Option Bool)) (a1_f : Nat) (a1_c : List AV) (a1_h : ((∀ S, mapO (lendPtr S) a1_c = some a1_c) ∧ (∀ n0 src R tm t c, tdL n0 src R tm t c a1_c = some a1_c)) ∧ ∀ y0 r, a1 y0 = some r → (∀ S, evCall T (evFL T) a1_f ([.ts .imm 1 (y0.map encInt)] ++ a1_c) S = some (.bool r, S)) ∧ (∀ S, evCallFz T (evFL T) a1_f ([.ts .imm 1 (y0.map encInt)] ++ a1_c) S = some (.bool r, S))) (r : Bool) (h : m49 a0 a1 = some r) : evFL T 49 [.ts .imm 1 (a0.map (encLInt .imm)), .fn a1_f a1_c] [] = some (.bool r, []) := by
  unfold m49 at h
  rw [evFL_at fn49 (Nat.le_of_ble_eq_true rfl) rfl (.inr rfl) ⟨rfl, rfl⟩]
  obtain ⟨r3, q1, h⟩ := bnd_some h
  have w2 := e77 a0 a1 a1_f a1_c a1_h r3 q1
  try simp -implicitDefEqProofs only [go_sem, Nat.reduceLT, Nat.reduceAdd, Nat.reduceSub, Nat.reduceMul, Nat.reduceEqDiff, Nat.reduceBEq, Nat.reduceLeDiff, Int.reduceToNat, Int.reduceLT, Int.reduceLE, Int.reduceEq, reduceCtorEq, ↓reduceIte] at w2
  cases h
  simp -implicitDefEqProofs only [go_sem, Nat.reduceLT, Nat.reduceAdd, Nat.reduceSub, Nat.reduceMul, Nat.reduceEqDiff, Nat.reduceBEq, Nat.reduceLeDiff, Int.reduceToNat, Int.reduceLT, Int.reduceLE, Int.reduceEq, reduceCtorEq, ↓reduceIte, i49, c49, a1_h.1, w2]
-- f51 (impl.Algebra).worst
theorem call51 (args : List AV) (S : St) : evCall T (evFL T) 51 args S = lendC (evFL T 51) S (lendAll S [[0, 1]] args) := evCall0 fn51 rfl rfl rfl args S
theorem callz51 (args : List AV) (S : St) : evCallFz T (evFL T) 51 args S = lendZ (evFL T 51) S [[0]] (lendAll S [[0, 1]] args) := evCallFz0 fn51 rfl rfl rfl args S
theorem calls51 (args : List AV) (S : St) : evCall (T.at true) (evFL T) 51 args S = lendC (evFL T 51) S (lendAll S [[0, 1]] args) := evCall0 fns51 rfl rfl rfl args S
theorem callsz51 (args : List AV) (S : St) : evCallFz (T.at true) (evFL T) 51 args S = lendZ (evFL T 51) S [[0]] (lendAll S [[0, 1]] args) := evCallFz0 fns51 rfl rfl rfl args S
attribute [go_sem] call51 callz51 calls51 callsz51
theorem e51 (a0 : Algebra) (r : Int) (h : m51 a0 = some r) : evFL T 51 [.agg [.int .i64 a0.weights, .ts .imm 1 (a0.apply.map (encLInt .imm))]] [] = some (.int .i64 r, []) := by
  unfold m51 at h
  rw [evFL_at fn51 (Nat.le_of_ble_eq_true rfl) rfl (.inr rfl) ⟨rfl, rfl⟩]
  cases h
  simp -implicitDefEqProofs only [go_sem, Nat.reduceLT, Nat.reduceAdd, Nat.reduceSub, Nat.reduceMul, Nat.reduceEqDiff, Nat.reduceBEq, Nat.reduceLeDiff, Int.reduceToNat, Int.reduceLT, Int.reduceLE, Int.reduceEq, reduceCtorEq, ↓reduceIte, i51, c51]
-- f78 slices.IndexFunc[[]int,int]
theorem call78 (args : List AV) (S : St) : evCall T (evFL T) 78 args S = lendC (evFL T 78) S (lendAll S [[1], [0]] args) := evCall0 fn78 rfl rfl rfl args S
theorem callz78 (args : List AV) (S : St) : evCallFz T (evFL T) 78 args S = lendZ (evFL T 78) S [[0]] (lendAll S [[1], [0]] args) := evCallFz0 fn78 rfl rfl rfl args S
theorem calls78 (args : List AV) (S : St) : evCall (T.at true) (evFL T) 78 args S = lendC (evFL T 78) S (lendAll S [[1], [0]] args) := evCall0 fns78 rfl rfl rfl args S
theorem callsz78 (args : List AV) (S : St) : evCallFz (T.at true) (evFL T) 78 args S = lendZ (evFL T 78) S [[0]] (lendAll S [[1], [0]] args) := evCallFz0 fns78 rfl rfl rfl args S
attribute [go_sem] call78 callz78 calls78 callsz78
noncomputable def X78_1 (a1_f : Nat) (a1_c : List AV) (a0 : (List Int)) (p1 : Int) (a1 : (Int → Option Bool)) (o : (Unit ⊕ Int)) : Ex × Fr × St :=
  match o with
  | .inl o => (.exit 0, frOf 19 (anyF), [])
  | .inr o => (.ret, frOf 19 (upd anyF 4 (.int .i64 o)), [])
noncomputable def E78_1 (a1_f : Nat) (a1_c : List AV) (a0 : (List Int)) (p1 : Int) (a1 : (Int → Option Bool)) (s : Int) : Fr × St := (frOf 19 (upd (upd (upd (upd anyF 0 (.ts .imm 1 (a0.map encInt))) 1 (.fn a1_f a1_c)) 7 (.int .i64 p1)) 8 (.int .i64 s)), [])
theorem b78_1 (a0 : (List Int)) (p1 : Int) (a1 : (Int → Option Bool)) (a1_f : Nat) (a1_c : List AV) (a1_h : ((∀ S, mapO (lendPtr S) a1_c = some a1_c) ∧ (∀ n0 src R tm t c, tdL n0 src R tm t c a1_c = some a1_c)) ∧ ∀ y0 r, a1 y0 = some r → (∀ S, evCall T (evFL T) a1_f ([.int .i64 y0] ++ a1_c) S = some (.bool r, S)) ∧ (∀ S, evCallFz T (evFL T) a1_f ([.int .i64 y0] ++ a1_c) S = some (.bool r, S))) (s : Int) (o : Ctl Int (Unit ⊕ Int)) (h : m78_1b a0 p1 a1 s = some o) : evCL T 0 k78_1b (E78_1 a1_f a1_c a0 p1 a1 s).1 (E78_1 a1_f a1_c a0 p1 a1 s).2 = some (ctlX (E78_1 a1_f a1_c a0 p1 a1) (X78_1 a1_f a1_c a0 p1 a1) o) := by
  unfold m78_1b at h
  revert h
  generalize s = s12
  intro h
  try simp -implicitDefEqProofs only [go_sem, Nat.reduceLT, Nat.reduceAdd, Nat.reduceSub, Nat.reduceMul, Nat.reduceEqDiff, Nat.reduceBEq, Nat.reduceLeDiff, Int.reduceToNat, Int.reduceLT, Int.reduceLE, Int.reduceEq, reduceCtorEq, ↓reduceIte, E78_1, X78_1, k78_1b, a1_h.1]
  cases b13 : (ltI s12 p1 : Bool)
  · replace h := br_f b13 h
    cases h
    simp -implicitDefEqProofs only [go_sem, Nat.reduceLT, Nat.reduceAdd, Nat.reduceSub, Nat.reduceMul, Nat.reduceEqDiff, Nat.reduceBEq, Nat.reduceLeDiff, Int.reduceToNat, Int.reduceLT, Int.reduceLE, Int.reduceEq, reduceCtorEq, ↓reduceIte, E78_1, X78_1, k78_1b, a1_h.1, b13]
  · replace h := br_t b13 h
    obtain ⟨x14, q15, h⟩ := bnd_some h
    obtain ⟨g16, g17, g18⟩ := idx_row encInt q15
    try simp -implicitDefEqProofs only [go_sem, Nat.reduceLT, Nat.reduceAdd, Nat.reduceSub, Nat.reduceMul, Nat.reduceEqDiff, Nat.reduceBEq, Nat.reduceLeDiff, Int.reduceToNat, Int.reduceLT, Int.reduceLE, Int.reduceEq, reduceCtorEq, ↓reduceIte] at g17
    try simp -implicitDefEqProofs only [go_sem, Nat.reduceLT, Nat.reduceAdd, Nat.reduceSub, Nat.reduceMul, Nat.reduceEqDiff, Nat.reduceBEq, Nat.reduceLeDiff, Int.reduceToNat, Int.reduceLT, Int.reduceLE, Int.reduceEq, reduceCtorEq, ↓reduceIte] at g18
    obtain ⟨r19, q20, h⟩ := bnd_some h
    have w21 := a1_h.2 x14 r19 q20
    try simp -implicitDefEqProofs only [go_sem, Nat.reduceLT, Nat.reduceAdd, Nat.reduceSub, Nat.reduceMul, Nat.reduceEqDiff, Nat.reduceBEq, Nat.reduceLeDiff, Int.reduceToNat, Int.reduceLT, Int.reduceLE, Int.reduceEq, reduceCtorEq, ↓reduceIte] at w21
    try simp -implicitDefEqProofs only [go_sem, Nat.reduceLT, Nat.reduceAdd, Nat.reduceSub, Nat.reduceMul, Nat.reduceEqDiff, Nat.reduceBEq, Nat.reduceLeDiff, Int.reduceToNat, Int.reduceLT, Int.reduceLE, Int.reduceEq, reduceCtorEq, ↓reduceIte, E78_1, X78_1, k78_1b, a1_h.1, b13, g16, g17, g18, w21.1, w21.2]
    cases b22 : (r19 : Bool)
    · replace h := br_f b22 h
      cases h
      simp -implicitDefEqProofs only [go_sem, Nat.reduceLT, Nat.reduceAdd, Nat.reduceSub, Nat.reduceMul, Nat.reduceEqDiff, Nat.reduceBEq, Nat.reduceLeDiff, Int.reduceToNat, Int.reduceLT, Int.reduceLE, Int.reduceEq, reduceCtorEq, ↓reduceIte, E78_1, X78_1, k78_1b, a1_h.1, b13, g16, g17, g18, w21.1, w21.2, b22]
    · replace h := br_t b22 h
      cases h
      simp -implicitDefEqProofs only [go_sem, Nat.reduceLT, Nat.reduceAdd, Nat.reduceSub, Nat.reduceMul, Nat.reduceEqDiff, Nat.reduceBEq, Nat.reduceLeDiff, Int.reduceToNat, Int.reduceLT, Int.reduceLE, Int.reduceEq, reduceCtorEq, ↓reduceIte, E78_1, X78_1, k78_1b, a1_h.1, b13, g16, g17, g18, w21.1, w21.2, b22]
theorem e78_1 (a0 : (List Int)) (p1 : Int) (a1 : (Int → Option Bool)) (a1_f : Nat) (a1_c : List AV) (a1_h : ((∀ S, mapO (lendPtr S) a1_c = some a1_c) ∧ (∀ n0 src R tm t c, tdL n0 src R tm t c a1_c = some a1_c)) ∧ ∀ y0 r, a1 y0 = some r → (∀ S, evCall T (evFL T) a1_f ([.int .i64 y0] ++ a1_c) S = some (.bool r, S)) ∧ (∀ S, evCallFz T (evFL T) a1_f ([.int .i64 y0] ++ a1_c) S = some (.bool r, S))) (s : Int) (o : (Unit ⊕ Int)) (h : loopP (m78_1b a0 p1 a1) s = some o) : evCL T 0 (.loop k78_1b) (E78_1 a1_f a1_c a0 p1 a1 s).1 (E78_1 a1_f a1_c a0 p1 a1 s).2 = some (X78_1 a1_f a1_c a0 p1 a1 o) :=
  loop_walk (E := E78_1 a1_f a1_c a0 p1 a1) (X := X78_1 a1_f a1_c a0 p1 a1) (by intro b; rcases b with b | b <;> (simp only [X78_1]; nofun)) (b78_1 a0 p1 a1 a1_f a1_c a1_h) s o h
theorem e78 (a0 : (List Int)) (a1 : (Int → Option Bool)) (a1_f : Nat) (a1_c : List AV) (a1_h : ((∀ S, mapO (lendPtr S) a1_c = some a1_c) ∧ (∀ n0 src R tm t c, tdL n0 src R tm t c a1_c = some a1_c)) ∧ ∀ y0 r, a1 y0 = some r → (∀ S, evCall T (evFL T) a1_f ([.int .i64 y0] ++ a1_c) S = some (.bool r, S)) ∧ (∀ S, evCallFz T (evFL T) a1_f ([.int .i64 y0] ++ a1_c) S = some (.bool r, S))) (r : Int) (h : m78 a0 a1 = some r) : evFL T 78 [.ts .imm 1 (a0.map encInt), .fn a1_f a1_c] [] = some (.int .i64 r, []) := by
  unfold m78 at h
  rw [evFL_at fn78 (Nat.le_of_ble_eq_true rfl) rfl (.inr rfl) ⟨rfl, rfl⟩]
  try simp -implicitDefEqProofs only [go_sem, Nat.reduceLT, Nat.reduceAdd, Nat.reduceSub, Nat.reduceMul, Nat.reduceEqDiff, Nat.reduceBEq, Nat.reduceLeDiff, Int.reduceToNat, Int.reduceLT, Int.reduceLE, Int.reduceEq, reduceCtorEq, ↓reduceIte, i78, c78, a1_h.1]
  obtain ⟨o, q23, h⟩ := bnd_some h
  rcases o with ⟨⟩ | v25
  · replace h := selS_l h
    have w24 := e78_1 a0 (↑a0.length : Int) a1 a1_f a1_c a1_h 0 (.inl ()) q23
    simp only [E78_1, X78_1] at w24
    try simp -implicitDefEqProofs only [go_sem, Nat.reduceLT, Nat.reduceAdd, Nat.reduceSub, Nat.reduceMul, Nat.reduceEqDiff, Nat.reduceBEq, Nat.reduceLeDiff, Int.reduceToNat, Int.reduceLT, Int.reduceLE, Int.reduceEq, reduceCtorEq, ↓reduceIte] at w24
    cases h
    simp -implicitDefEqProofs only [go_sem, Nat.reduceLT, Nat.reduceAdd, Nat.reduceSub, Nat.reduceMul, Nat.reduceEqDiff, Nat.reduceBEq, Nat.reduceLeDiff, Int.reduceToNat, Int.reduceLT, Int.reduceLE, Int.reduceEq, reduceCtorEq, ↓reduceIte, i78, c78, a1_h.1, w24]
  · replace h := selS_r h
    have w24 := e78_1 a0 (↑a0.length : Int) a1 a1_f a1_c a1_h 0 (.inr v25) q23
    simp only [E78_1, X78_1] at w24
    try simp -implicitDefEqProofs only [go_sem, Nat.reduceLT, Nat.reduceAdd, Nat.reduceSub, Nat.reduceMul, Nat.reduceEqDiff, Nat.reduceBEq, Nat.reduceLeDiff, Int.reduceToNat, Int.reduceLT, Int.reduceLE, Int.reduceEq, reduceCtorEq, ↓reduceIte] at w24
    cases h
    simp -implicitDefEqProofs only [go_sem, Nat.reduceLT, Nat.reduceAdd, Nat.reduceSub, Nat.reduceMul, Nat.reduceEqDiff, Nat.reduceBEq, Nat.reduceLeDiff, Int.reduceToNat, Int.reduceLT, Int.reduceLE, Int.reduceEq, reduceCtorEq, ↓reduceIte, i78, c78, a1_h.1, w24]
-- f52 slices.ContainsFunc[[]int,int]
theorem call52 (args : List AV) (S : St) : evCall T (evFL T) 52 args S = lendC (evFL T 52) S (lendAll S [[1], [0]] args) := evCall0 fn52 rfl rfl rfl args S
theorem callz52 (args : List AV) (S : St) : evCallFz T (evFL T) 52 args S = lendZ (evFL T 52) S [[0]] (lendAll S [[1], [0]] args) := evCallFz0 fn52 rfl rfl rfl args S
theorem calls52 (args : List AV) (S : St) : evCall (T.at true) (evFL T) 52 args S = lendC (evFL T 52) S (lendAll S [[1], [0]] args) := evCall0 fns52 rfl rfl rfl args S
theorem callsz52 (args : List AV) (S : St) : evCallFz (T.at true) (evFL T) 52 args S = lendZ (evFL T 52) S [[0]] (lendAll S [[1], [0]] args) := evCallFz0 fns52 rfl rfl rfl args S
attribute [go_sem] call52 callz52 calls52 callsz52
theorem e52 (a0 : (List Int)) (a1 : (Int → Option Bool)) (a1_f : Nat) (a1_c : List AV) (a1_h : ((∀ S, mapO (lendPtr S) a1_c = some a1_c) ∧ (∀ n0 src R tm t c, tdL n0 src R tm t c a1_c = some a1_c)) ∧ ∀ y0 r, a1 y0 = some r → (∀ S, evCall T (evFL T) a1_f ([.int .i64 y0] ++ a1_c) S = some (.bool r, S)) ∧ (∀ S, evCallFz T (evFL T) a1_f ([.int .i64 y0] ++ a1_c) S = some (.bool r, S))) (r : Bool) (h : m52 a0 a1 = some r) : evFL T 52 [.ts .imm 1 (a0.map encInt), .fn a1_f a1_c] [] = some (.bool r, []) := by
  unfold m52 at h
  rw [evFL_at fn52 (Nat.le_of_ble_eq_true rfl) rfl (.inr rfl) ⟨rfl, rfl⟩]
  obtain ⟨r3, q1, h⟩ := bnd_some h
  have w2 := e78 a0 a1 a1_f a1_c a1_h r3 q1
  try simp -implicitDefEqProofs only [go_sem, Nat.reduceLT, Nat.reduceAdd, Nat.reduceSub, Nat.reduceMul, Nat.reduceEqDiff, Nat.reduceBEq, Nat.reduceLeDiff, Int.reduceToNat, Int.reduceLT, Int.reduceLE, Int.reduceEq, reduceCtorEq, ↓reduceIte] at w2
  cases h
  simp -implicitDefEqProofs only [go_sem, Nat.reduceLT, Nat.reduceAdd, Nat.reduceSub, Nat.reduceMul, Nat.reduceEqDiff, Nat.reduceBEq, Nat.reduceLeDiff, Int.reduceToNat, Int.reduceLT, Int.reduceLE, Int.reduceEq, reduceCtorEq, ↓reduceIte, i52, c52, a1_h.1, w2]
-- f53 impl.GoodAlgebra$1$1
theorem call53 (args : List AV) (S : St) : evCall T (evFL T) 53 args S = lendC (evFL T 53) S (lendAll S [[0], [0]] args) := evCall0 fn53 rfl rfl rfl args S
theorem callz53 (args : List AV) (S : St) : evCallFz T (evFL T) 53 args S = lendZ (evFL T 53) S [[0]] (lendAll S [[0], [0]] args) := evCallFz0 fn53 rfl rfl rfl args S
theorem calls53 (args : List AV) (S : St) : evCall (T.at true) (evFL T) 53 args S = lendC (evFL T 53) S (lendAll S [[0], [0]] args) := evCall0 fns53 rfl rfl rfl args S
theorem callsz53 (args : List AV) (S : St) : evCallFz (T.at true) (evFL T) 53 args S = lendZ (evFL T 53) S [[0]] (lendAll S [[0], [0]] args) := evCallFz0 fns53 rfl rfl rfl args S
attribute [go_sem] call53 callz53 calls53 callsz53
theorem e53 (a0 : Int) (a1 : Algebra) (r : Bool) (h : m53 a0 a1 = some r) : evFL T 53 [.int .i64 a0, .tp .imm 2 [[.int .i64 a1.weights, .ts .imm 1 (a1.apply.map (encLInt .imm))]] 0 0] [] = some (.bool r, []) := by
  unfold m53 at h
  rw [evFL_at fn53 (Nat.le_of_ble_eq_true rfl) rfl (.inr rfl) ⟨rfl, rfl⟩]
  obtain ⟨r3, q1, h⟩ := bnd_some h
  have w2 := e51 a1 r3 q1
  try simp -implicitDefEqProofs only [go_sem, Nat.reduceLT, Nat.reduceAdd, Nat.reduceSub, Nat.reduceMul, Nat.reduceEqDiff, Nat.reduceBEq, Nat.reduceLeDiff, Int.reduceToNat, Int.reduceLT, Int.reduceLE, Int.reduceEq, reduceCtorEq, ↓reduceIte] at w2
  obtain ⟨r6, q4, h⟩ := bnd_some h
  have w5 := e48 a0 0 r3 r6 q4
  try simp -implicitDefEqProofs only [go_sem, Nat.reduceLT, Nat.reduceAdd, Nat.reduceSub, Nat.reduceMul, Nat.reduceEqDiff, Nat.reduceBEq, Nat.reduceLeDiff, Int.reduceToNat, Int.reduceLT, Int.reduceLE, Int.reduceEq, reduceCtorEq, ↓reduceIte] at w5
  cases h
  simp -implicitDefEqProofs only [go_sem, Nat.reduceLT, Nat.reduceAdd, Nat.reduceSub, Nat.reduceMul, Nat.reduceEqDiff, Nat.reduceBEq, Nat.reduceLeDiff, Int.reduceToNat, Int.reduceLT, Int.reduceLE, Int.reduceEq, reduceCtorEq, ↓reduceIte, i53, c53, w2, w5]
-- f50 impl.GoodAlgebra$1
theorem call50 (args : List AV) (S : St) : evCall T (evFL T) 50 args S = lendC (evFL T 50) S (lendAll S [[1], [0]] args) := evCall0 fn50 rfl rfl rfl args S
theorem callz50 (args : List AV) (S : St) : evCallFz T (evFL T) 50 args S = lendZ (evFL T 50) S [[0]] (lendAll S [[1], [0]] args) := evCallFz0 fn50 rfl rfl rfl args S
theorem calls50 (args : List AV) (S : St) : evCall (T.at true) (evFL T) 50 args S = lendC (evFL T 50) S (lendAll S [[1], [0]] args) := evCall0 fns50 rfl rfl rfl args S
theorem callsz50 (args : List AV) (S : St) : evCallFz (T.at true) (evFL T) 50 args S = lendZ (evFL T 50) S [[0]] (lendAll S [[1], [0]] args) := evCallFz0 fns50 rfl rfl rfl args S
attribute [go_sem] call50 callz50 calls50 callsz50
noncomputable def X50_1 (a0 : (List Int)) (a1 : Algebra) (o : Bool) : Ex × Fr × St :=
  (.normal, frOf 24 (upd anyF 3 (.bool o)), [])
theorem e50_1 (a0 : (List Int)) (a1 : Algebra) (o : Bool) (h : m50_1 a0 a1 = some o) : evCL T 0 k50_1 (frOf 24 (upd (upd anyF 0 (.ts .imm 1 (a0.map encInt))) 1 (.tp .imm 2 [[.int .i64 a1.weights, .ts .imm 1 (a1.apply.map (encLInt .imm))]] 0 0))) [] = some (X50_1 a0 a1 o) := by
  unfold m50_1 at h
  try simp -implicitDefEqProofs only [go_sem, Nat.reduceLT, Nat.reduceAdd, Nat.reduceSub, Nat.reduceMul, Nat.reduceEqDiff, Nat.reduceBEq, Nat.reduceLeDiff, Int.reduceToNat, Int.reduceLT, Int.reduceLE, Int.reduceEq, reduceCtorEq, ↓reduceIte, X50_1, k50_1]
  cases b1 : (eqI (↑a0.length : Int) a1.weights : Bool)
  · replace h := br_f b1 h
    cases h
    simp -implicitDefEqProofs only [go_sem, Nat.reduceLT, Nat.reduceAdd, Nat.reduceSub, Nat.reduceMul, Nat.reduceEqDiff, Nat.reduceBEq, Nat.reduceLeDiff, Int.reduceToNat, Int.reduceLT, Int.reduceLE, Int.reduceEq, reduceCtorEq, ↓reduceIte, X50_1, k50_1, b1]
  · replace h := br_t b1 h
    obtain ⟨r4, q2, h⟩ := bnd_some h
    have w3 := e51 a1 r4 q2
    try simp -implicitDefEqProofs only [go_sem, Nat.reduceLT, Nat.reduceAdd, Nat.reduceSub, Nat.reduceMul, Nat.reduceEqDiff, Nat.reduceBEq, Nat.reduceLeDiff, Int.reduceToNat, Int.reduceLT, Int.reduceLE, Int.reduceEq, reduceCtorEq, ↓reduceIte] at w3
    obtain ⟨x5, q6, h⟩ := bnd_some h
    obtain ⟨g7, g8, g9⟩ := idx_row encInt q6
    try simp -implicitDefEqProofs only [go_sem, Nat.reduceLT, Nat.reduceAdd, Nat.reduceSub, Nat.reduceMul, Nat.reduceEqDiff, Nat.reduceBEq, Nat.reduceLeDiff, Int.reduceToNat, Int.reduceLT, Int.reduceLE, Int.reduceEq, reduceCtorEq, ↓reduceIte] at g8
    try simp -implicitDefEqProofs only [go_sem, Nat.reduceLT, Nat.reduceAdd, Nat.reduceSub, Nat.reduceMul, Nat.reduceEqDiff, Nat.reduceBEq, Nat.reduceLeDiff, Int.reduceToNat, Int.reduceLT, Int.reduceLE, Int.reduceEq, reduceCtorEq, ↓reduceIte] at g9
    try simp -implicitDefEqProofs only [go_sem, Nat.reduceLT, Nat.reduceAdd, Nat.reduceSub, Nat.reduceMul, Nat.reduceEqDiff, Nat.reduceBEq, Nat.reduceLeDiff, Int.reduceToNat, Int.reduceLT, Int.reduceLE, Int.reduceEq, reduceCtorEq, ↓reduceIte, X50_1, k50_1, b1, w3, g7, g8, g9]
    cases b12 : (eqI x5 r4 : Bool)
    · replace h := br_f b12 h
      cases h
      simp -implicitDefEqProofs only [go_sem, Nat.reduceLT, Nat.reduceAdd, Nat.reduceSub, Nat.reduceMul, Nat.reduceEqDiff, Nat.reduceBEq, Nat.reduceLeDiff, Int.reduceToNat, Int.reduceLT, Int.reduceLE, Int.reduceEq, reduceCtorEq, ↓reduceIte, X50_1, k50_1, b1, w3, g7, g8, g9, b12]
    · replace h := br_t b12 h
      obtain ⟨r15, q13, h⟩ := bnd_some h
      have w14 := e52 a0 (fun y0 => m53 y0 a1) 53 [.tp .imm 2 [[.int .i64 a1.weights, .ts .imm 1 (a1.apply.map (encLInt .imm))]] 0 0] ⟨⟨fun S => by simp -implicitDefEqProofs only [go_sem, Nat.reduceLT, Nat.reduceAdd, Nat.reduceSub, Nat.reduceMul, Nat.reduceEqDiff, Nat.reduceBEq, Nat.reduceLeDiff, Int.reduceToNat, Int.reduceLT, Int.reduceLE, Int.reduceEq, reduceCtorEq, ↓reduceIte], fun _ _ _ _ _ _ => by simp -implicitDefEqProofs only [go_sem, Nat.reduceLT, Nat.reduceAdd, Nat.reduceSub, Nat.reduceMul, Nat.reduceEqDiff, Nat.reduceBEq, Nat.reduceLeDiff, Int.reduceToNat, Int.reduceLT, Int.reduceLE, Int.reduceEq, reduceCtorEq, ↓reduceIte]⟩, fun y0 r h => ⟨fun S => by simp -implicitDefEqProofs only [go_sem, Nat.reduceLT, Nat.reduceAdd, Nat.reduceSub, Nat.reduceMul, Nat.reduceEqDiff, Nat.reduceBEq, Nat.reduceLeDiff, Int.reduceToNat, Int.reduceLT, Int.reduceLE, Int.reduceEq, reduceCtorEq, ↓reduceIte, e53 y0 a1 r h], fun S => by simp -implicitDefEqProofs only [go_sem, Nat.reduceLT, Nat.reduceAdd, Nat.reduceSub, Nat.reduceMul, Nat.reduceEqDiff, Nat.reduceBEq, Nat.reduceLeDiff, Int.reduceToNat, Int.reduceLT, Int.reduceLE, Int.reduceEq, reduceCtorEq, ↓reduceIte, e53 y0 a1 r h]⟩⟩ r15 q13
      try simp -implicitDefEqProofs only [go_sem, Nat.reduceLT, Nat.reduceAdd, Nat.reduceSub, Nat.reduceMul, Nat.reduceEqDiff, Nat.reduceBEq, Nat.reduceLeDiff, Int.reduceToNat, Int.reduceLT, Int.reduceLE, Int.reduceEq, reduceCtorEq, ↓reduceIte] at w14
      cases h
      simp -implicitDefEqProofs only [go_sem, Nat.reduceLT, Nat.reduceAdd, Nat.reduceSub, Nat.reduceMul, Nat.reduceEqDiff, Nat.reduceBEq, Nat.reduceLeDiff, Int.reduceToNat, Int.reduceLT, Int.reduceLE, Int.reduceEq, reduceCtorEq, ↓reduceIte, X50_1, k50_1, b1, w3, g7, g8, g9, b12, w14]
theorem e50 (a0 : (List Int)) (a1 : Algebra) (r : Bool) (h : m50 a0 a1 = some r) : evFL T 50 [.ts .imm 1 (a0.map encInt), .tp .imm 2 [[.int .i64 a1.weights, .ts .imm 1 (a1.apply.map (encLInt .imm))]] 0 0] [] = some (.bool r, []) := by
  unfold m50 at h
  rw [evFL_at fn50 (Nat.le_of_ble_eq_true rfl) rfl (.inr rfl) ⟨rfl, rfl⟩]
  obtain ⟨v18, q16, h⟩ := bnd_some h
  have w17 := e50_1 a0 a1 v18 q16
  simp only [X50_1] at w17
  try simp -implicitDefEqProofs only [go_sem, Nat.reduceLT, Nat.reduceAdd, Nat.reduceSub, Nat.reduceMul, Nat.reduceEqDiff, Nat.reduceBEq, Nat.reduceLeDiff, Int.reduceToNat, Int.reduceLT, Int.reduceLE, Int.reduceEq, reduceCtorEq, ↓reduceIte] at w17
  cases h
  simp -implicitDefEqProofs only [go_sem, Nat.reduceLT, Nat.reduceAdd, Nat.reduceSub, Nat.reduceMul, Nat.reduceEqDiff, Nat.reduceBEq, Nat.reduceLeDiff, Int.reduceToNat, Int.reduceLT, Int.reduceLE, Int.reduceEq, reduceCtorEq, ↓reduceIte, i50, c50, w17]
-- f15 impl.GoodAlgebra
theorem call15 (args : List AV) (S : St) : evCall T (evFL T) 15 args S = lendC (evFL T 15) S (lendAll S [[0, 1]] args) := evCall0 fn15 rfl rfl rfl args S
theorem callz15 (args : List AV) (S : St) : evCallFz T (evFL T) 15 args S = lendZ (evFL T 15) S [[0]] (lendAll S [[0, 1]] args) := evCallFz0 fn15 rfl rfl rfl args S
theorem calls15 (args : List AV) (S : St) : evCall (T.at true) (evFL T) 15 args S = lendC (evFL T 15) S (lendAll S [[0, 1]] args) := evCall0 fns15 rfl rfl rfl args S
theorem callsz15 (args : List AV) (S : St) : evCallFz (T.at true) (evFL T) 15 args S = lendZ (evFL T 15) S [[0]] (lendAll S [[0, 1]] args) := evCallFz0 fns15 rfl rfl rfl args S
attribute [go_sem] call15 callz15 calls15 callsz15
noncomputable def X15_1 (a0 : Algebra) (o : Bool) : Ex × Fr × St :=
  (.normal, frOf 19 (upd (upd anyF 1 (.ptr 0 0 0)) 13 (.bool o)), [some ⟨.box, 2, [[.int .i64 a0.weights, .ts .imm 1 (a0.apply.map (encLInt .imm))]]⟩])
theorem e15_1 (a0 : Algebra) (o : Bool) (h : m15_1 a0 = some o) : evCL T 0 k15_1 (frOf 19 (upd anyF 1 (.ptr 0 0 0))) [some ⟨.box, 2, [[.int .i64 a0.weights, .ts .imm 1 (a0.apply.map (encLInt .imm))]]⟩] = some (X15_1 a0 o) := by
  unfold m15_1 at h
  obtain ⟨r3, q1, h⟩ := bnd_some h
  have w2 := e48 a0.weights 2 12 r3 q1
  try simp -implicitDefEqProofs only [go_sem, Nat.reduceLT, Nat.reduceAdd, Nat.reduceSub, Nat.reduceMul, Nat.reduceEqDiff, Nat.reduceBEq, Nat.reduceLeDiff, Int.reduceToNat, Int.reduceLT, Int.reduceLE, Int.reduceEq, reduceCtorEq, ↓reduceIte] at w2
  try simp -implicitDefEqProofs only [go_sem, Nat.reduceLT, Nat.reduceAdd, Nat.reduceSub, Nat.reduceMul, Nat.reduceEqDiff, Nat.reduceBEq, Nat.reduceLeDiff, Int.reduceToNat, Int.reduceLT, Int.reduceLE, Int.reduceEq, reduceCtorEq, ↓reduceIte, X15_1, k15_1, w2]
  cases b4 : (r3 : Bool)
  · replace h := br_f b4 h
    cases h
    simp -implicitDefEqProofs only [go_sem, Nat.reduceLT, Nat.reduceAdd, Nat.reduceSub, Nat.reduceMul, Nat.reduceEqDiff, Nat.reduceBEq, Nat.reduceLeDiff, Int.reduceToNat, Int.reduceLT, Int.reduceLE, Int.reduceEq, reduceCtorEq, ↓reduceIte, X15_1, k15_1, w2, b4]
  · replace h := br_t b4 h
    obtain ⟨r7, q5, h⟩ := bnd_some h
    have w6 := e48 (↑a0.apply.length : Int) 1 4 r7 q5
    try simp -implicitDefEqProofs only [go_sem, Nat.reduceLT, Nat.reduceAdd, Nat.reduceSub, Nat.reduceMul, Nat.reduceEqDiff, Nat.reduceBEq, Nat.reduceLeDiff, Int.reduceToNat, Int.reduceLT, Int.reduceLE, Int.reduceEq, reduceCtorEq, ↓reduceIte] at w6
    cases h
    simp -implicitDefEqProofs only [go_sem, Nat.reduceLT, Nat.reduceAdd, Nat.reduceSub, Nat.reduceMul, Nat.reduceEqDiff, Nat.reduceBEq, Nat.reduceLeDiff, Int.reduceToNat, Int.reduceLT, Int.reduceLE, Int.reduceEq, reduceCtorEq, ↓reduceIte, X15_1, k15_1, w2, b4, w6]
theorem e15 (a0 : Algebra) (r : Bool) (h : m15 a0 = some r) : evFL T 15 [.agg [.int .i64 a0.weights, .ts .imm 1 (a0.apply.map (encLInt .imm))]] [] = some (.bool r, []) := by
  unfold m15 at h
  rw [evFL_at fn15 (Nat.le_of_ble_eq_true rfl) rfl (.inr rfl) ⟨rfl, rfl⟩]
  obtain ⟨v10, q8, h⟩ := bnd_some h
  have w9 := e15_1 a0 v10 q8
  simp only [X15_1] at w9
  try simp -implicitDefEqProofs only [go_sem, Nat.reduceLT, Nat.reduceAdd, Nat.reduceSub, Nat.reduceMul, Nat.reduceEqDiff, Nat.reduceBEq, Nat.reduceLeDiff, Int.reduceToNat, Int.reduceLT, Int.reduceLE, Int.reduceEq, reduceCtorEq, ↓reduceIte] at w9
  try simp -implicitDefEqProofs only [go_sem, Nat.reduceLT, Nat.reduceAdd, Nat.reduceSub, Nat.reduceMul, Nat.reduceEqDiff, Nat.reduceBEq, Nat.reduceLeDiff, Int.reduceToNat, Int.reduceLT, Int.reduceLE, Int.reduceEq, reduceCtorEq, ↓reduceIte, i15, c15, w9]
  cases b11 : (v10 : Bool)
  · replace h := br_f b11 h
    obtain ⟨r14, q12, h⟩ := bnd_some h
    have w13 := e49 a0.apply (fun y0 => m50 y0 a0) 50 [.tp .imm 2 [[.int .i64 a0.weights, .ts .imm 1 (a0.apply.map (encLInt .imm))]] 0 0] ⟨⟨fun S => by simp -implicitDefEqProofs only [go_sem, Nat.reduceLT, Nat.reduceAdd, Nat.reduceSub, Nat.reduceMul, Nat.reduceEqDiff, Nat.reduceBEq, Nat.reduceLeDiff, Int.reduceToNat, Int.reduceLT, Int.reduceLE, Int.reduceEq, reduceCtorEq, ↓reduceIte], fun _ _ _ _ _ _ => by simp -implicitDefEqProofs only [go_sem, Nat.reduceLT, Nat.reduceAdd, Nat.reduceSub, Nat.reduceMul, Nat.reduceEqDiff, Nat.reduceBEq, Nat.reduceLeDiff, Int.reduceToNat, Int.reduceLT, Int.reduceLE, Int.reduceEq, reduceCtorEq, ↓reduceIte]⟩, fun y0 r h => ⟨fun S => by simp -implicitDefEqProofs only [go_sem, Nat.reduceLT, Nat.reduceAdd, Nat.reduceSub, Nat.reduceMul, Nat.reduceEqDiff, Nat.reduceBEq, Nat.reduceLeDiff, Int.reduceToNat, Int.reduceLT, Int.reduceLE, Int.reduceEq, reduceCtorEq, ↓reduceIte, e50 y0 a0 r h], fun S => by simp -implicitDefEqProofs only [go_sem, Nat.reduceLT, Nat.reduceAdd, Nat.reduceSub, Nat.reduceMul, Nat.reduceEqDiff, Nat.reduceBEq, Nat.reduceLeDiff, Int.reduceToNat, Int.reduceLT, Int.reduceLE, Int.reduceEq, reduceCtorEq, ↓reduceIte, e50 y0 a0 r h]⟩⟩ r14 q12
    try simp -implicitDefEqProofs only [go_sem, Nat.reduceLT, Nat.reduceAdd, Nat.reduceSub, Nat.reduceMul, Nat.reduceEqDiff, Nat.reduceBEq, Nat.reduceLeDiff, Int.reduceToNat, Int.reduceLT, Int.reduceLE, Int.reduceEq, reduceCtorEq, ↓reduceIte] at w13
    cases h
    simp -implicitDefEqProofs only [go_sem, Nat.reduceLT, Nat.reduceAdd, Nat.reduceSub, Nat.reduceMul, Nat.reduceEqDiff, Nat.reduceBEq, Nat.reduceLeDiff, Int.reduceToNat, Int.reduceLT, Int.reduceLE, Int.reduceEq, reduceCtorEq, ↓reduceIte, i15, c15, w9, b11, w13]
  · replace h := br_t b11 h
    cases h
    simp -implicitDefEqProofs only [go_sem, Nat.reduceLT, Nat.reduceAdd, Nat.reduceSub, Nat.reduceMul, Nat.reduceEqDiff, Nat.reduceBEq, Nat.reduceLeDiff, Int.reduceToNat, Int.reduceLT, Int.reduceLE, Int.reduceEq, reduceCtorEq, ↓reduceIte, i15, c15, w9, b11]
-- f22 impl.LexOf
theorem call22 (args : List AV) (S : St) : evCall T (evFL T) 22 args S = lendC (evFL T 22) S (lendAll S [[0, 1], [0, 1]] args) := evCall0 fn22 rfl rfl rfl args S
theorem callz22 (args : List AV) (S : St) : evCallFz T (evFL T) 22 args S = lendZ (evFL T 22) S [[0, 1], [0]] (lendAll S [[0, 1], [0, 1]] args) := evCallFz0 fn22 rfl rfl rfl args S
theorem calls22 (args : List AV) (S : St) : evCall (T.at true) (evFL T) 22 args S = lendC (evFL T 22) S (lendAll S [[0, 1], [0, 1]] args) := evCall0 fns22 rfl rfl rfl args S
theorem callsz22 (args : List AV) (S : St) : evCallFz (T.at true) (evFL T) 22 args S = lendZ (evFL T 22) S [[0, 1], [0]] (lendAll S [[0, 1], [0, 1]] args) := evCallFz0 fns22 rfl rfl rfl args S
attribute [go_sem] call22 callz22 calls22 callsz22
noncomputable def X22_1 (a0 : Algebra) (a1 : Algebra) (o : Bool) : Ex × Fr × St :=
  (.normal, frOf 112 (upd (upd (upd (upd anyF 2 (.ptr 0 0 0)) 3 (.ptr 1 0 0)) 4 (.ptr 2 0 0)) 30 (.bool o)), [some ⟨.box, 2, [[.int .i64 a0.weights, .ts .imm 1 (a0.apply.map (encLInt .imm))]]⟩, some ⟨.box, 2, [[.int .i64 a1.weights, .ts .imm 1 (a1.apply.map (encLInt .imm))]]⟩, some ⟨.box, 2, [[.int .i64 0, .sl 3 0 0]]⟩, some ⟨.arr, 1, []⟩])
theorem e22_1 (a0 : Algebra) (a1 : Algebra) (o : Bool) (h : m22_1 a0 a1 = some o) : evCL T 0 k22_1 (frOf 112 (upd (upd (upd anyF 2 (.ptr 0 0 0)) 3 (.ptr 1 0 0)) 4 (.ptr 2 0 0))) [some ⟨.box, 2, [[.int .i64 a0.weights, .ts .imm 1 (a0.apply.map (encLInt .imm))]]⟩, some ⟨.box, 2, [[.int .i64 a1.weights, .ts .imm 1 (a1.apply.map (encLInt .imm))]]⟩, some ⟨.box, 2, [[.int .i64 0, .sl 3 0 0]]⟩, some ⟨.arr, 1, []⟩] = some (X22_1 a0 a1 o) := by
  unfold m22_1 at h
  obtain ⟨r3, q1, h⟩ := bnd_some h
  have w2 := e15 a0 r3 q1
  try simp -implicitDefEqProofs only [go_sem, Nat.reduceLT, Nat.reduceAdd, Nat.reduceSub, Nat.reduceMul, Nat.reduceEqDiff, Nat.reduceBEq, Nat.reduceLeDiff, Int.reduceToNat, Int.reduceLT, Int.reduceLE, Int.reduceEq, reduceCtorEq, ↓reduceIte] at w2
  try simp -implicitDefEqProofs only [go_sem, Nat.reduceLT, Nat.reduceAdd, Nat.reduceSub, Nat.reduceMul, Nat.reduceEqDiff, Nat.reduceBEq, Nat.reduceLeDiff, Int.reduceToNat, Int.reduceLT, Int.reduceLE, Int.reduceEq, reduceCtorEq, ↓reduceIte, X22_1, k22_1, w2]
  cases b4 : (r3 : Bool)
  · replace h := br_f b4 h
    cases h
    simp -implicitDefEqProofs only [go_sem, Nat.reduceLT, Nat.reduceAdd, Nat.reduceSub, Nat.reduceMul, Nat.reduceEqDiff, Nat.reduceBEq, Nat.reduceLeDiff, Int.reduceToNat, Int.reduceLT, Int.reduceLE, Int.reduceEq, reduceCtorEq, ↓reduceIte, X22_1, k22_1, w2, b4]
  · replace h := br_t b4 h
    obtain ⟨r7, q5, h⟩ := bnd_some h
    have w6 := e15 a1 r7 q5
    try simp -implicitDefEqProofs only [go_sem, Nat.reduceLT, Nat.reduceAdd, Nat.reduceSub, Nat.reduceMul, Nat.reduceEqDiff, Nat.reduceBEq, Nat.reduceLeDiff, Int.reduceToNat, Int.reduceLT, Int.reduceLE, Int.reduceEq, reduceCtorEq, ↓reduceIte] at w6
    try simp -implicitDefEqProofs only [go_sem, Nat.reduceLT, Nat.reduceAdd, Nat.reduceSub, Nat.reduceMul, Nat.reduceEqDiff, Nat.reduceBEq, Nat.reduceLeDiff, Int.reduceToNat, Int.reduceLT, Int.reduceLE, Int.reduceEq, reduceCtorEq, ↓reduceIte, X22_1, k22_1, w2, b4, w6]
    cases b8 : (r7 : Bool)
    · replace h := br_f b8 h
      cases h
      simp -implicitDefEqProofs only [go_sem, Nat.reduceLT, Nat.reduceAdd, Nat.reduceSub, Nat.reduceMul, Nat.reduceEqDiff, Nat.reduceBEq, Nat.reduceLeDiff, Int.reduceToNat, Int.reduceLT, Int.reduceLE, Int.reduceEq, reduceCtorEq, ↓reduceIte, X22_1, k22_1, w2, b4, w6, b8]
    · replace h := br_t b8 h
      cases h
      simp -implicitDefEqProofs only [go_sem, Nat.reduceLT, Nat.reduceAdd, Nat.reduceSub, Nat.reduceMul, Nat.reduceEqDiff, Nat.reduceBEq, Nat.reduceLeDiff, Int.reduceToNat, Int.reduceLT, Int.reduceLE, Int.reduceEq, reduceCtorEq, ↓reduceIte, X22_1, k22_1, w2, b4, w6, b8]
noncomputable def X22_23 (s208 : Int) (x211 : (List Int)) (s302 : Int) (x349 : Int) (x359 : Int) (a0 : Algebra) (p20 : Int) (r218 : Int) (r307 : Int) (s346 : Int) (a1 : Algebra) (p21 : Int) (s209 : List (List Int)) (s347 : List Int) (o : Bool) : Ex × Fr × St :=
  (.normal, frOf 112 (upd (upd (upd (upd (upd (upd (upd (upd (upd (upd (upd (upd (upd (upd (upd (upd (upd (upd anyF 2 (.ptr 0 0 0)) 3 (.ptr 1 0 0)) 4 (.ptr 2 0 0)) 6 (.ptr 4 0 0)) 7 (.int .i64 s208)) 8 (.ts .imm 1 (x211.map encInt))) 9 (.sl 6 0 s347.length)) 10 (.int .i64 s302)) 12 (.int .i64 x349)) 13 (.int .i64 x359)) 44 (.ts .imm 1 (a0.apply.map (encLInt .imm)))) 45 (.int .i64 p20)) 46 (.int .i64 s208)) 53 (.int .i64 r218)) 54 (.int .i64 s302)) 58 (.int .i64 r307)) 59 (.int .i64 s346)) 83 (.bool o)), [some ⟨.box, 2, [[.int .i64 a0.weights, .ts .imm 1 (a0.apply.map (encLInt .imm))]]⟩, some ⟨.box, 2, [[.int .i64 a1.weights, .ts .imm 1 (a1.apply.map (encLInt .imm))]]⟩, some ⟨.box, 2, [[.int .i64 0, .sl 3 0 0]]⟩, some ⟨.arr, 1, []⟩, some ⟨.box, 2, [[.int .i64 p21, .sl 5 0 s209.length]]⟩, some ⟨.arr, 1, s209.map (encLInt .own)⟩, some ⟨.arr, 1, s347.map encInt⟩])
theorem e22_23 (s208 : Int) (x211 : (List Int)) (s302 : Int) (x349 : Int) (x359 : Int) (a0 : Algebra) (p20 : Int) (r218 : Int) (r307 : Int) (s346 : Int) (a1 : Algebra) (p21 : Int) (s209 : List (List Int)) (s347 : List Int) (o : Bool) (h : m22_23 x349 x359 a0 a1 = some o) : evCL T 0 k22_23 (frOf 112 (upd (upd (upd (upd (upd (upd (upd (upd (upd (upd (upd (upd (upd (upd (upd (upd (upd anyF 2 (.ptr 0 0 0)) 3 (.ptr 1 0 0)) 4 (.ptr 2 0 0)) 6 (.ptr 4 0 0)) 7 (.int .i64 s208)) 8 (.ts .imm 1 (x211.map encInt))) 9 (.sl 6 0 s347.length)) 10 (.int .i64 s302)) 12 (.int .i64 x349)) 13 (.int .i64 x359)) 44 (.ts .imm 1 (a0.apply.map (encLInt .imm)))) 45 (.int .i64 p20)) 46 (.int .i64 s208)) 53 (.int .i64 r218)) 54 (.int .i64 s302)) 58 (.int .i64 r307)) 59 (.int .i64 s346))) [some ⟨.box, 2, [[.int .i64 a0.weights, .ts .imm 1 (a0.apply.map (encLInt .imm))]]⟩, some ⟨.box, 2, [[.int .i64 a1.weights, .ts .imm 1 (a1.apply.map (encLInt .imm))]]⟩, some ⟨.box, 2, [[.int .i64 0, .sl 3 0 0]]⟩, some ⟨.arr, 1, []⟩, some ⟨.box, 2, [[.int .i64 p21, .sl 5 0 s209.length]]⟩, some ⟨.arr, 1, s209.map (encLInt .own)⟩, some ⟨.arr, 1, s347.map encInt⟩] = some (X22_23 s208 x211 s302 x349 x359 a0 p20 r218 r307 s346 a1 p21 s209 s347 o) := by
  unfold m22_23 at h
  obtain ⟨r366, q364, h⟩ := bnd_some h
  have w365 := e51 a0 r366 q364
  try simp -implicitDefEqProofs only [go_sem, Nat.reduceLT, Nat.reduceAdd, Nat.reduceSub, Nat.reduceMul, Nat.reduceEqDiff, Nat.reduceBEq, Nat.reduceLeDiff, Int.reduceToNat, Int.reduceLT, Int.reduceLE, Int.reduceEq, reduceCtorEq, ↓reduceIte] at w365
  try simp -implicitDefEqProofs only [go_sem, Nat.reduceLT, Nat.reduceAdd, Nat.reduceSub, Nat.reduceMul, Nat.reduceEqDiff, Nat.reduceBEq, Nat.reduceLeDiff, Int.reduceToNat, Int.reduceLT, Int.reduceLE, Int.reduceEq, reduceCtorEq, ↓reduceIte, X22_23, k22_23, w365]
  cases b367 : (eqI x349 r366 : Bool)
  · replace h := br_f b367 h
    obtain ⟨r370, q368, h⟩ := bnd_some h
    have w369 := e51 a1 r370 q368
    try simp -implicitDefEqProofs only [go_sem, Nat.reduceLT, Nat.reduceAdd, Nat.reduceSub, Nat.reduceMul, Nat.reduceEqDiff, Nat.reduceBEq, Nat.reduceLeDiff, Int.reduceToNat, Int.reduceLT, Int.reduceLE, Int.reduceEq, reduceCtorEq, ↓reduceIte] at w369
    cases h
    simp -implicitDefEqProofs only [go_sem, Nat.reduceLT, Nat.reduceAdd, Nat.reduceSub, Nat.reduceMul, Nat.reduceEqDiff, Nat.reduceBEq, Nat.reduceLeDiff, Int.reduceToNat, Int.reduceLT, Int.reduceLE, Int.reduceEq, reduceCtorEq, ↓reduceIte, X22_23, k22_23, w365, b367, w369]
  · replace h := br_t b367 h
    cases h
    simp -implicitDefEqProofs only [go_sem, Nat.reduceLT, Nat.reduceAdd, Nat.reduceSub, Nat.reduceMul, Nat.reduceEqDiff, Nat.reduceBEq, Nat.reduceLeDiff, Int.reduceToNat, Int.reduceLT, Int.reduceLE, Int.reduceEq, reduceCtorEq, ↓reduceIte, X22_23, k22_23, w365, b367]
noncomputable def X22_24 (s208 : Int) (x211 : (List Int)) (s302 : Int) (x349 : Int) (x359 : Int) (a0 : Algebra) (p20 : Int) (r218 : Int) (r307 : Int) (s346 : Int) (v373 : Bool) (a1 : Algebra) (p21 : Int) (s209 : List (List Int)) (s347 : List Int) (o : (List Int)) : Ex × Fr × St :=
  (.normal, frOf 112 (upd (upd (upd (upd (upd (upd (upd (upd (upd (upd (upd (upd (upd (upd (upd anyF 2 (.ptr 0 0 0)) 3 (.ptr 1 0 0)) 4 (.ptr 2 0 0)) 6 (.ptr 4 0 0)) 7 (.int .i64 s208)) 8 (.ts .imm 1 (x211.map encInt))) 9 (.sl 6 0 o.length)) 10 (.int .i64 s302)) 44 (.ts .imm 1 (a0.apply.map (encLInt .imm)))) 45 (.int .i64 p20)) 46 (.int .i64 s208)) 53 (.int .i64 r218)) 54 (.int .i64 s302)) 58 (.int .i64 r307)) 59 (.int .i64 s346)), [some ⟨.box, 2, [[.int .i64 a0.weights, .ts .imm 1 (a0.apply.map (encLInt .imm))]]⟩, some ⟨.box, 2, [[.int .i64 a1.weights, .ts .imm 1 (a1.apply.map (encLInt .imm))]]⟩, some ⟨.box, 2, [[.int .i64 0, .sl 3 0 0]]⟩, some ⟨.arr, 1, []⟩, some ⟨.box, 2, [[.int .i64 p21, .sl 5 0 s209.length]]⟩, some ⟨.arr, 1, s209.map (encLInt .own)⟩, some ⟨.arr, 1, o.map encInt⟩])
theorem e22_24 (s208 : Int) (x211 : (List Int)) (s302 : Int) (x349 : Int) (x359 : Int) (a0 : Algebra) (p20 : Int) (r218 : Int) (r307 : Int) (s346 : Int) (v373 : Bool) (a1 : Algebra) (p21 : Int) (s209 : List (List Int)) (s347 : List Int) (o : (List Int)) (h : m22_24 x349 x359 v373 a1 p21 s209 s347 = some o) : evCL T 0 k22_24 (frOf 112 (upd (upd (upd (upd (upd (upd (upd (upd (upd (upd (upd (upd (upd (upd (upd (upd (upd (upd anyF 2 (.ptr 0 0 0)) 3 (.ptr 1 0 0)) 4 (.ptr 2 0 0)) 6 (.ptr 4 0 0)) 7 (.int .i64 s208)) 8 (.ts .imm 1 (x211.map encInt))) 9 (.sl 6 0 s347.length)) 10 (.int .i64 s302)) 12 (.int .i64 x349)) 13 (.int .i64 x359)) 44 (.ts .imm 1 (a0.apply.map (encLInt .imm)))) 45 (.int .i64 p20)) 46 (.int .i64 s208)) 53 (.int .i64 r218)) 54 (.int .i64 s302)) 58 (.int .i64 r307)) 59 (.int .i64 s346)) 83 (.bool v373))) [some ⟨.box, 2, [[.int .i64 a0.weights, .ts .imm 1 (a0.apply.map (encLInt .imm))]]⟩, some ⟨.box, 2, [[.int .i64 a1.weights, .ts .imm 1 (a1.apply.map (encLInt .imm))]]⟩, some ⟨.box, 2, [[.int .i64 0, .sl 3 0 0]]⟩, some ⟨.arr, 1, []⟩, some ⟨.box, 2, [[.int .i64 p21, .sl 5 0 s209.length]]⟩, some ⟨.arr, 1, s209.map (encLInt .own)⟩, some ⟨.arr, 1, s347.map encInt⟩] = some (X22_24 s208 x211 s302 x349 x359 a0 p20 r218 r307 s346 v373 a1 p21 s209 s347 o) := by
  unfold m22_24 at h
  try simp -implicitDefEqProofs only [go_sem, Nat.reduceLT, Nat.reduceAdd, Nat.reduceSub, Nat.reduceMul, Nat.reduceEqDiff, Nat.reduceBEq, Nat.reduceLeDiff, Int.reduceToNat, Int.reduceLT, Int.reduceLE, Int.reduceEq, reduceCtorEq, ↓reduceIte, X22_24, k22_24]
  cases b374 : (v373 : Bool)
  · replace h := br_f b374 h
    obtain ⟨r381, q379, h⟩ := bnd_some h
    have w380 := e51 a1 r381 q379
    try simp -implicitDefEqProofs only [go_sem, Nat.reduceLT, Nat.reduceAdd, Nat.reduceSub, Nat.reduceMul, Nat.reduceEqDiff, Nat.reduceBEq, Nat.reduceLeDiff, Int.reduceToNat, Int.reduceLT, Int.reduceLE, Int.reduceEq, reduceCtorEq, ↓reduceIte] at w380
    obtain ⟨g382, h⟩ := ck_some h
    try simp -implicitDefEqProofs only [go_sem, Nat.reduceLT, Nat.reduceAdd, Nat.reduceSub, Nat.reduceMul, Nat.reduceEqDiff, Nat.reduceBEq, Nat.reduceLeDiff, Int.reduceToNat, Int.reduceLT, Int.reduceLE, Int.reduceEq, reduceCtorEq, ↓reduceIte] at g382
    cases h
    simp -implicitDefEqProofs only [go_sem, Nat.reduceLT, Nat.reduceAdd, Nat.reduceSub, Nat.reduceMul, Nat.reduceEqDiff, Nat.reduceBEq, Nat.reduceLeDiff, Int.reduceToNat, Int.reduceLT, Int.reduceLE, Int.reduceEq, reduceCtorEq, ↓reduceIte, X22_24, k22_24, b374, w380, g382]
  · replace h := br_t b374 h
    obtain ⟨r377, q375, h⟩ := bnd_some h
    have w376 := e51 (⟨p21, s209⟩ : Algebra) r377 q375
    try simp -implicitDefEqProofs only [go_sem, Nat.reduceLT, Nat.reduceAdd, Nat.reduceSub, Nat.reduceMul, Nat.reduceEqDiff, Nat.reduceBEq, Nat.reduceLeDiff, Int.reduceToNat, Int.reduceLT, Int.reduceLE, Int.reduceEq, reduceCtorEq, ↓reduceIte] at w376
    obtain ⟨g378, h⟩ := ck_some h
    try simp -implicitDefEqProofs only [go_sem, Nat.reduceLT, Nat.reduceAdd, Nat.reduceSub, Nat.reduceMul, Nat.reduceEqDiff, Nat.reduceBEq, Nat.reduceLeDiff, Int.reduceToNat, Int.reduceLT, Int.reduceLE, Int.reduceEq, reduceCtorEq, ↓reduceIte] at g378
    cases h
    simp -implicitDefEqProofs only [go_sem, Nat.reduceLT, Nat.reduceAdd, Nat.reduceSub, Nat.reduceMul, Nat.reduceEqDiff, Nat.reduceBEq, Nat.reduceLeDiff, Int.reduceToNat, Int.reduceLT, Int.reduceLE, Int.reduceEq, reduceCtorEq, ↓reduceIte, X22_24, k22_24, b374, w376, g378]
noncomputable def X22_20 (s208 : Int) (x211 : (List Int)) (s302 : Int) (a0 : Algebra) (p20 : Int) (r218 : Int) (r307 : Int) (a1 : Algebra) (p21 : Int) (s209 : List (List Int)) (o : (List Int)) : Ex × Fr × St :=
  (.exit 4, frOf 112 (upd (upd (upd (upd (upd (upd (upd (upd (upd (upd (upd (upd anyF 2 (.ptr 0 0 0)) 3 (.ptr 1 0 0)) 4 (.ptr 2 0 0)) 6 (.ptr 4 0 0)) 7 (.int .i64 s208)) 8 (.ts .imm 1 (x211.map encInt))) 9 (.sl 6 0 o.length)) 44 (.ts .imm 1 (a0.apply.map (encLInt .imm)))) 45 (.int .i64 p20)) 46 (.int .i64 s208)) 53 (.int .i64 r218)) 54 (.int .i64 s302)), [some ⟨.box, 2, [[.int .i64 a0.weights, .ts .imm 1 (a0.apply.map (encLInt .imm))]]⟩, some ⟨.box, 2, [[.int .i64 a1.weights, .ts .imm 1 (a1.apply.map (encLInt .imm))]]⟩, some ⟨.box, 2, [[.int .i64 0, .sl 3 0 0]]⟩, some ⟨.arr, 1, []⟩, some ⟨.box, 2, [[.int .i64 p21, .sl 5 0 s209.length]]⟩, some ⟨.arr, 1, s209.map (encLInt .own)⟩, some ⟨.arr, 1, o.map encInt⟩])
noncomputable def E22_20 (s208 : Int) (x211 : (List Int)) (s302 : Int) (a0 : Algebra) (p20 : Int) (r218 : Int) (r307 : Int) (a1 : Algebra) (p21 : Int) (s209 : List (List Int)) (s : (Int × List Int)) : Fr × St := (frOf 112 (upd (upd (upd (upd (upd (upd (upd (upd (upd (upd (upd (upd (upd (upd (upd anyF 2 (.ptr 0 0 0)) 3 (.ptr 1 0 0)) 4 (.ptr 2 0 0)) 6 (.ptr 4 0 0)) 7 (.int .i64 s208)) 8 (.ts .imm 1 (x211.map encInt))) 9 (.sl 6 0 s.2.length)) 10 (.int .i64 s302)) 44 (.ts .imm 1 (a0.apply.map (encLInt .imm)))) 45 (.int .i64 p20)) 46 (.int .i64 s208)) 53 (.int .i64 r218)) 54 (.int .i64 s302)) 58 (.int .i64 r307)) 59 (.int .i64 s.1)), [some ⟨.box, 2, [[.int .i64 a0.weights, .ts .imm 1 (a0.apply.map (encLInt .imm))]]⟩, some ⟨.box, 2, [[.int .i64 a1.weights, .ts .imm 1 (a1.apply.map (encLInt .imm))]]⟩, some ⟨.box, 2, [[.int .i64 0, .sl 3 0 0]]⟩, some ⟨.arr, 1, []⟩, some ⟨.box, 2, [[.int .i64 p21, .sl 5 0 s209.length]]⟩, some ⟨.arr, 1, s209.map (encLInt .own)⟩, some ⟨.arr, 1, s.2.map encInt⟩])
theorem b22_20 (s208 : Int) (x211 : (List Int)) (s302 : Int) (a0 : Algebra) (p20 : Int) (r218 : Int) (r307 : Int) (a1 : Algebra) (p21 : Int) (s209 : List (List Int)) (s : (Int × List Int)) (o : Ctl (Int × List Int) (List Int)) (h : m22_20b s208 x211 s302 a0 r307 a1 p21 s209 s = some o) : evCL T 0 k22_20b (E22_20 s208 x211 s302 a0 p20 r218 r307 a1 p21 s209 s).1 (E22_20 s208 x211 s302 a0 p20 r218 r307 a1 p21 s209 s).2 = some (ctlX (E22_20 s208 x211 s302 a0 p20 r218 r307 a1 p21 s209) (X22_20 s208 x211 s302 a0 p20 r218 r307 a1 p21 s209) o) := by
  unfold m22_20b at h
  obtain ⟨s346, s347⟩ := s
  replace h := sel2_some h
  try simp -implicitDefEqProofs only [go_sem, Nat.reduceLT, Nat.reduceAdd, Nat.reduceSub, Nat.reduceMul, Nat.reduceEqDiff, Nat.reduceBEq, Nat.reduceLeDiff, Int.reduceToNat, Int.reduceLT, Int.reduceLE, Int.reduceEq, reduceCtorEq, ↓reduceIte, E22_20, X22_20, k22_20b]
  cases b348 : (ltI s346 r307 : Bool)
  · replace h := br_f b348 h
    cases h
    simp -implicitDefEqProofs only [go_sem, Nat.reduceLT, Nat.reduceAdd, Nat.reduceSub, Nat.reduceMul, Nat.reduceEqDiff, Nat.reduceBEq, Nat.reduceLeDiff, Int.reduceToNat, Int.reduceLT, Int.reduceLE, Int.reduceEq, reduceCtorEq, ↓reduceIte, E22_20, X22_20, k22_20b, b348]
  · replace h := br_t b348 h
    obtain ⟨x349, q350, h⟩ := bnd_some h
    obtain ⟨g351, g352, g353⟩ := idx_row encInt q350
    try simp -implicitDefEqProofs only [go_sem, Nat.reduceLT, Nat.reduceAdd, Nat.reduceSub, Nat.reduceMul, Nat.reduceEqDiff, Nat.reduceBEq, Nat.reduceLeDiff, Int.reduceToNat, Int.reduceLT, Int.reduceLE, Int.reduceEq, reduceCtorEq, ↓reduceIte] at g352
    try simp -implicitDefEqProofs only [go_sem, Nat.reduceLT, Nat.reduceAdd, Nat.reduceSub, Nat.reduceMul, Nat.reduceEqDiff, Nat.reduceBEq, Nat.reduceLeDiff, Int.reduceToNat, Int.reduceLT, Int.reduceLE, Int.reduceEq, reduceCtorEq, ↓reduceIte] at g353
    obtain ⟨x354, q355, h⟩ := bnd_some h
    obtain ⟨g356, g357, g358⟩ := idx_row (encLInt .imm) q355
    try simp -implicitDefEqProofs only [go_sem, Nat.reduceLT, Nat.reduceAdd, Nat.reduceSub, Nat.reduceMul, Nat.reduceEqDiff, Nat.reduceBEq, Nat.reduceLeDiff, Int.reduceToNat, Int.reduceLT, Int.reduceLE, Int.reduceEq, reduceCtorEq, ↓reduceIte] at g357
    try simp -implicitDefEqProofs only [go_sem, Nat.reduceLT, Nat.reduceAdd, Nat.reduceSub, Nat.reduceMul, Nat.reduceEqDiff, Nat.reduceBEq, Nat.reduceLeDiff, Int.reduceToNat, Int.reduceLT, Int.reduceLE, Int.reduceEq, reduceCtorEq, ↓reduceIte] at g358
    obtain ⟨x359, q360, h⟩ := bnd_some h
    obtain ⟨g361, g362, g363⟩ := idx_row encInt q360
    try simp -implicitDefEqProofs only [go_sem, Nat.reduceLT, Nat.reduceAdd, Nat.reduceSub, Nat.reduceMul, Nat.reduceEqDiff, Nat.reduceBEq, Nat.reduceLeDiff, Int.reduceToNat, Int.reduceLT, Int.reduceLE, Int.reduceEq, reduceCtorEq, ↓reduceIte] at g362
    try simp -implicitDefEqProofs only [go_sem, Nat.reduceLT, Nat.reduceAdd, Nat.reduceSub, Nat.reduceMul, Nat.reduceEqDiff, Nat.reduceBEq, Nat.reduceLeDiff, Int.reduceToNat, Int.reduceLT, Int.reduceLE, Int.reduceEq, reduceCtorEq, ↓reduceIte] at g363
    obtain ⟨v373, q371, h⟩ := bnd_some h
    have w372 := e22_23 s208 x211 s302 x349 x359 a0 p20 r218 r307 s346 a1 p21 s209 s347 v373 q371
    simp only [X22_23] at w372
    try simp -implicitDefEqProofs only [go_sem, Nat.reduceLT, Nat.reduceAdd, Nat.reduceSub, Nat.reduceMul, Nat.reduceEqDiff, Nat.reduceBEq, Nat.reduceLeDiff, Int.reduceToNat, Int.reduceLT, Int.reduceLE, Int.reduceEq, reduceCtorEq, ↓reduceIte] at w372
    obtain ⟨v385, q383, h⟩ := bnd_some h
    have w384 := e22_24 s208 x211 s302 x349 x359 a0 p20 r218 r307 s346 v373 a1 p21 s209 s347 v385 q383
    simp only [X22_24] at w384
    try simp -implicitDefEqProofs only [go_sem, Nat.reduceLT, Nat.reduceAdd, Nat.reduceSub, Nat.reduceMul, Nat.reduceEqDiff, Nat.reduceBEq, Nat.reduceLeDiff, Int.reduceToNat, Int.reduceLT, Int.reduceLE, Int.reduceEq, reduceCtorEq, ↓reduceIte] at w384
    cases h
    simp -implicitDefEqProofs only [go_sem, Nat.reduceLT, Nat.reduceAdd, Nat.reduceSub, Nat.reduceMul, Nat.reduceEqDiff, Nat.reduceBEq, Nat.reduceLeDiff, Int.reduceToNat, Int.reduceLT, Int.reduceLE, Int.reduceEq, reduceCtorEq, ↓reduceIte, E22_20, X22_20, k22_20b, b348, g351, g352, g353, g356, g357, g358, g361, g362, g363, w372, w384]
theorem e22_20 (s208 : Int) (x211 : (List Int)) (s302 : Int) (a0 : Algebra) (p20 : Int) (r218 : Int) (r307 : Int) (a1 : Algebra) (p21 : Int) (s209 : List (List Int)) (s : (Int × List Int)) (o : (List Int)) (h : loopP (m22_20b s208 x211 s302 a0 r307 a1 p21 s209) s = some o) : evCL T 0 (.loop k22_20b) (E22_20 s208 x211 s302 a0 p20 r218 r307 a1 p21 s209 s).1 (E22_20 s208 x211 s302 a0 p20 r218 r307 a1 p21 s209 s).2 = some (X22_20 s208 x211 s302 a0 p20 r218 r307 a1 p21 s209 o) :=
  loop_walk (E := E22_20 s208 x211 s302 a0 p20 r218 r307 a1 p21 s209) (X := X22_20 s208 x211 s302 a0 p20 r218 r307 a1 p21 s209) (by intro b; (simp only [X22_20]; nofun)) (b22_20 s208 x211 s302 a0 p20 r218 r307 a1 p21 s209) s o h
noncomputable def X22_14 (s208 : Int) (x211 : (List Int)) (a0 : Algebra) (p20 : Int) (r218 : Int) (a1 : Algebra) (p21 : Int) (s209 : List (List Int)) (o : (List Int)) : Ex × Fr × St :=
  (.exit 2, frOf 112 (upd (upd (upd (upd (upd (upd (upd (upd anyF 2 (.ptr 0 0 0)) 3 (.ptr 1 0 0)) 4 (.ptr 2 0 0)) 6 (.ptr 4 0 0)) 9 (.sl 6 0 o.length)) 44 (.ts .imm 1 (a0.apply.map (encLInt .imm)))) 45 (.int .i64 p20)) 46 (.int .i64 s208)), [some ⟨.box, 2, [[.int .i64 a0.weights, .ts .imm 1 (a0.apply.map (encLInt .imm))]]⟩, some ⟨.box, 2, [[.int .i64 a1.weights, .ts .imm 1 (a1.apply.map (encLInt .imm))]]⟩, some ⟨.box, 2, [[.int .i64 0, .sl 3 0 0]]⟩, some ⟨.arr, 1, []⟩, some ⟨.box, 2, [[.int .i64 p21, .sl 5 0 s209.length]]⟩, some ⟨.arr, 1, s209.map (encLInt .own)⟩, some ⟨.arr, 1, o.map encInt⟩])
noncomputable def E22_14 (s208 : Int) (x211 : (List Int)) (a0 : Algebra) (p20 : Int) (r218 : Int) (a1 : Algebra) (p21 : Int) (s209 : List (List Int)) (s : (Int × List Int)) : Fr × St := (frOf 112 (upd (upd (upd (upd (upd (upd (upd (upd (upd (upd (upd (upd anyF 2 (.ptr 0 0 0)) 3 (.ptr 1 0 0)) 4 (.ptr 2 0 0)) 6 (.ptr 4 0 0)) 7 (.int .i64 s208)) 8 (.ts .imm 1 (x211.map encInt))) 9 (.sl 6 0 s.2.length)) 44 (.ts .imm 1 (a0.apply.map (encLInt .imm)))) 45 (.int .i64 p20)) 46 (.int .i64 s208)) 53 (.int .i64 r218)) 54 (.int .i64 s.1)), [some ⟨.box, 2, [[.int .i64 a0.weights, .ts .imm 1 (a0.apply.map (encLInt .imm))]]⟩, some ⟨.box, 2, [[.int .i64 a1.weights, .ts .imm 1 (a1.apply.map (encLInt .imm))]]⟩, some ⟨.box, 2, [[.int .i64 0, .sl 3 0 0]]⟩, some ⟨.arr, 1, []⟩, some ⟨.box, 2, [[.int .i64 p21, .sl 5 0 s209.length]]⟩, some ⟨.arr, 1, s209.map (encLInt .own)⟩, some ⟨.arr, 1, s.2.map encInt⟩])
theorem b22_14 (s208 : Int) (x211 : (List Int)) (a0 : Algebra) (p20 : Int) (r218 : Int) (a1 : Algebra) (p21 : Int) (s209 : List (List Int)) (s : (Int × List Int)) (o : Ctl (Int × List Int) (List Int)) (h : m22_14b s208 x211 a0 r218 a1 p21 s209 s = some o) : evCL T 0 k22_14b (E22_14 s208 x211 a0 p20 r218 a1 p21 s209 s).1 (E22_14 s208 x211 a0 p20 r218 a1 p21 s209 s).2 = some (ctlX (E22_14 s208 x211 a0 p20 r218 a1 p21 s209) (X22_14 s208 x211 a0 p20 r218 a1 p21 s209) o) := by
  unfold m22_14b at h
  obtain ⟨s302, s303⟩ := s
  replace h := sel2_some h
  try simp -implicitDefEqProofs only [go_sem, Nat.reduceLT, Nat.reduceAdd, Nat.reduceSub, Nat.reduceMul, Nat.reduceEqDiff, Nat.reduceBEq, Nat.reduceLeDiff, Int.reduceToNat, Int.reduceLT, Int.reduceLE, Int.reduceEq, reduceCtorEq, ↓reduceIte, E22_14, X22_14, k22_14b]
  cases b304 : (ltI s302 r218 : Bool)
  · replace h := br_f b304 h
    cases h
    simp -implicitDefEqProofs only [go_sem, Nat.reduceLT, Nat.reduceAdd, Nat.reduceSub, Nat.reduceMul, Nat.reduceEqDiff, Nat.reduceBEq, Nat.reduceLeDiff, Int.reduceToNat, Int.reduceLT, Int.reduceLE, Int.reduceEq, reduceCtorEq, ↓reduceIte, E22_14, X22_14, k22_14b, b304]
  · replace h := br_t b304 h
    obtain ⟨r307, q305, h⟩ := bnd_some h
    have w306 := e51 a1 r307 q305
    try simp -implicitDefEqProofs only [go_sem, Nat.reduceLT, Nat.reduceAdd, Nat.reduceSub, Nat.reduceMul, Nat.reduceEqDiff, Nat.reduceBEq, Nat.reduceLeDiff, Int.reduceToNat, Int.reduceLT, Int.reduceLE, Int.reduceEq, reduceCtorEq, ↓reduceIte] at w306
    obtain ⟨v388, q386, h⟩ := bnd_some h
    have w387 := e22_20 s208 x211 s302 a0 p20 r218 r307 a1 p21 s209 (0, s303) v388 q386
    simp only [E22_20, X22_20] at w387
    try simp -implicitDefEqProofs only [go_sem, Nat.reduceLT, Nat.reduceAdd, Nat.reduceSub, Nat.reduceMul, Nat.reduceEqDiff, Nat.reduceBEq, Nat.reduceLeDiff, Int.reduceToNat, Int.reduceLT, Int.reduceLE, Int.reduceEq, reduceCtorEq, ↓reduceIte] at w387
    cases h
    simp -implicitDefEqProofs only [go_sem, Nat.reduceLT, Nat.reduceAdd, Nat.reduceSub, Nat.reduceMul, Nat.reduceEqDiff, Nat.reduceBEq, Nat.reduceLeDiff, Int.reduceToNat, Int.reduceLT, Int.reduceLE, Int.reduceEq, reduceCtorEq, ↓reduceIte, E22_14, X22_14, k22_14b, b304, w306, w387]
theorem e22_14 (s208 : Int) (x211 : (List Int)) (a0 : Algebra) (p20 : Int) (r218 : Int) (a1 : Algebra) (p21 : Int) (s209 : List (List Int)) (s : (Int × List Int)) (o : (List Int)) (h : loopP (m22_14b s208 x211 a0 r218 a1 p21 s209) s = some o) : evCL T 0 (.loop k22_14b) (E22_14 s208 x211 a0 p20 r218 a1 p21 s209 s).1 (E22_14 s208 x211 a0 p20 r218 a1 p21 s209 s).2 = some (X22_14 s208 x211 a0 p20 r218 a1 p21 s209 o) :=
  loop_walk (E := E22_14 s208 x211 a0 p20 r218 a1 p21 s209) (X := X22_14 s208 x211 a0 p20 r218 a1 p21 s209) (by intro b; (simp only [X22_14]; nofun)) (b22_14 s208 x211 a0 p20 r218 a1 p21 s209) s o h
noncomputable def X22_2 (a0 : Algebra) (p20 : Int) (a1 : Algebra) (p21 : Int) (o : (List (List Int))) : Ex × Fr × St :=
  (.exit 0, frOf 112 (upd (upd anyF 4 (.ptr 0 0 0)) 6 (.ptr 2 0 0)), [some ⟨.box, 2, [[.int .i64 0, .sl 1 0 0]]⟩, some ⟨.arr, 1, []⟩, some ⟨.box, 2, [[.int .i64 p21, .sl 3 0 o.length]]⟩, some ⟨.arr, 1, o.map (encLInt .own)⟩])
noncomputable def E22_2 (a0 : Algebra) (p20 : Int) (a1 : Algebra) (p21 : Int) (s : (Int × List (List Int))) : Fr × St := (frOf 112 (upd (upd (upd (upd (upd (upd (upd anyF 2 (.ptr 0 0 0)) 3 (.ptr 1 0 0)) 4 (.ptr 2 0 0)) 6 (.ptr 4 0 0)) 44 (.ts .imm 1 (a0.apply.map (encLInt .imm)))) 45 (.int .i64 p20)) 46 (.int .i64 s.1)), [some ⟨.box, 2, [[.int .i64 a0.weights, .ts .imm 1 (a0.apply.map (encLInt .imm))]]⟩, some ⟨.box, 2, [[.int .i64 a1.weights, .ts .imm 1 (a1.apply.map (encLInt .imm))]]⟩, some ⟨.box, 2, [[.int .i64 0, .sl 3 0 0]]⟩, some ⟨.arr, 1, []⟩, some ⟨.box, 2, [[.int .i64 p21, .sl 5 0 s.2.length]]⟩, some ⟨.arr, 1, s.2.map (encLInt .own)⟩])
theorem b22_2 (a0 : Algebra) (p20 : Int) (a1 : Algebra) (p21 : Int) (s : (Int × List (List Int))) (o : Ctl (Int × List (List Int)) (List (List Int))) (h : m22_2b a0 p20 a1 p21 s = some o) : evCL T 0 k22_2b (E22_2 a0 p20 a1 p21 s).1 (E22_2 a0 p20 a1 p21 s).2 = some (ctlX (E22_2 a0 p20 a1 p21) (X22_2 a0 p20 a1 p21) o) := by
  unfold m22_2b at h
  obtain ⟨s208, s209⟩ := s
  replace h := sel2_some h
  try simp -implicitDefEqProofs only [go_sem, Nat.reduceLT, Nat.reduceAdd, Nat.reduceSub, Nat.reduceMul, Nat.reduceEqDiff, Nat.reduceBEq, Nat.reduceLeDiff, Int.reduceToNat, Int.reduceLT, Int.reduceLE, Int.reduceEq, reduceCtorEq, ↓reduceIte, E22_2, X22_2, k22_2b]
  cases b210 : (ltI s208 p20 : Bool)
  · replace h := br_f b210 h
    cases h
    simp -implicitDefEqProofs only [go_sem, Nat.reduceLT, Nat.reduceAdd, Nat.reduceSub, Nat.reduceMul, Nat.reduceEqDiff, Nat.reduceBEq, Nat.reduceLeDiff, Int.reduceToNat, Int.reduceLT, Int.reduceLE, Int.reduceEq, reduceCtorEq, ↓reduceIte, E22_2, X22_2, k22_2b, b210]
  · replace h := br_t b210 h
    obtain ⟨x211, q212, h⟩ := bnd_some h
    obtain ⟨g213, g214, g215⟩ := idx_row (encLInt .imm) q212
    try simp -implicitDefEqProofs only [go_sem, Nat.reduceLT, Nat.reduceAdd, Nat.reduceSub, Nat.reduceMul, Nat.reduceEqDiff, Nat.reduceBEq, Nat.reduceLeDiff, Int.reduceToNat, Int.reduceLT, Int.reduceLE, Int.reduceEq, reduceCtorEq, ↓reduceIte] at g214
    try simp -implicitDefEqProofs only [go_sem, Nat.reduceLT, Nat.reduceAdd, Nat.reduceSub, Nat.reduceMul, Nat.reduceEqDiff, Nat.reduceBEq, Nat.reduceLeDiff, Int.reduceToNat, Int.reduceLT, Int.reduceLE, Int.reduceEq, reduceCtorEq, ↓reduceIte] at g215
    obtain ⟨r218, q216, h⟩ := bnd_some h
    have w217 := e51 a0 r218 q216
    try simp -implicitDefEqProofs only [go_sem, Nat.reduceLT, Nat.reduceAdd, Nat.reduceSub, Nat.reduceMul, Nat.reduceEqDiff, Nat.reduceBEq, Nat.reduceLeDiff, Int.reduceToNat, Int.reduceLT, Int.reduceLE, Int.reduceEq, reduceCtorEq, ↓reduceIte] at w217
    obtain ⟨v391, q389, h⟩ := bnd_some h
    have w390 := e22_14 s208 x211 a0 p20 r218 a1 p21 s209 (0, []) v391 q389
    simp only [E22_14, X22_14] at w390
    try simp -implicitDefEqProofs only [go_sem, Nat.reduceLT, Nat.reduceAdd, Nat.reduceSub, Nat.reduceMul, Nat.reduceEqDiff, Nat.reduceBEq, Nat.reduceLeDiff, Int.reduceToNat, Int.reduceLT, Int.reduceLE, Int.reduceEq, reduceCtorEq, ↓reduceIte] at w390
    obtain ⟨r394, q392, h⟩ := bnd_some h
    have w393 := e51 (⟨p21, s209⟩ : Algebra) r394 q392
    try simp -implicitDefEqProofs only [go_sem, Nat.reduceLT, Nat.reduceAdd, Nat.reduceSub, Nat.reduceMul, Nat.reduceEqDiff, Nat.reduceBEq, Nat.reduceLeDiff, Int.reduceToNat, Int.reduceLT, Int.reduceLE, Int.reduceEq, reduceCtorEq, ↓reduceIte] at w393
    obtain ⟨g395, h⟩ := ck_some h
    try simp -implicitDefEqProofs only [go_sem, Nat.reduceLT, Nat.reduceAdd, Nat.reduceSub, Nat.reduceMul, Nat.reduceEqDiff, Nat.reduceBEq, Nat.reduceLeDiff, Int.reduceToNat, Int.reduceLT, Int.reduceLE, Int.reduceEq, reduceCtorEq, ↓reduceIte] at g395
    obtain ⟨g396, h⟩ := ck_some h
    try simp -implicitDefEqProofs only [go_sem, Nat.reduceLT, Nat.reduceAdd, Nat.reduceSub, Nat.reduceMul, Nat.reduceEqDiff, Nat.reduceBEq, Nat.reduceLeDiff, Int.reduceToNat, Int.reduceLT, Int.reduceLE, Int.reduceEq, reduceCtorEq, ↓reduceIte] at g396
    cases h
    simp -implicitDefEqProofs only [go_sem, Nat.reduceLT, Nat.reduceAdd, Nat.reduceSub, Nat.reduceMul, Nat.reduceEqDiff, Nat.reduceBEq, Nat.reduceLeDiff, Int.reduceToNat, Int.reduceLT, Int.reduceLE, Int.reduceEq, reduceCtorEq, ↓reduceIte, E22_2, X22_2, k22_2b, b210, g213, g214, g215, w217, w390, w393, g395, g396]
theorem e22_2 (a0 : Algebra) (p20 : Int) (a1 : Algebra) (p21 : Int) (s : (Int × List (List Int))) (o : (List (List Int))) (h : loopP (m22_2b a0 p20 a1 p21) s = some o) : evCL T 0 (.loop k22_2b) (E22_2 a0 p20 a1 p21 s).1 (E22_2 a0 p20 a1 p21 s).2 = some (X22_2 a0 p20 a1 p21 o) :=
  loop_walk (E := E22_2 a0 p20 a1 p21) (X := X22_2 a0 p20 a1 p21) (by intro b; (simp only [X22_2]; nofun)) (b22_2 a0 p20 a1 p21) s o h
theorem e22 (a0 : Algebra) (a1 : Algebra) (r : (Algebra × Bool)) (h : m22 a0 a1 = some r) : evFL T 22 [.agg [.int .i64 a0.weights, .ts .imm 1 (a0.apply.map (encLInt .imm))], .agg [.int .i64 a1.weights, .ts .imm 1 (a1.apply.map (encLInt .imm))]] [] = some (.tup [.agg [.int .i64 r.1.weights, .sl 0 0 r.1.apply.length], .bool r.2], [some ⟨.arr, 1, r.1.apply.map (encLInt .own)⟩]) := by
  unfold m22 at h
  rw [evFL_at fn22 (Nat.le_of_ble_eq_true rfl) rfl (.inr rfl) ⟨rfl, rfl⟩]
  obtain ⟨v11, q9, h⟩ := bnd_some h
  have w10 := e22_1 a0 a1 v11 q9
  simp only [X22_1] at w10
  try simp -implicitDefEqProofs only [go_sem, Nat.reduceLT, Nat.reduceAdd, Nat.reduceSub, Nat.reduceMul, Nat.reduceEqDiff, Nat.reduceBEq, Nat.reduceLeDiff, Int.reduceToNat, Int.reduceLT, Int.reduceLE, Int.reduceEq, reduceCtorEq, ↓reduceIte] at w10
  try simp -implicitDefEqProofs only [go_sem, Nat.reduceLT, Nat.reduceAdd, Nat.reduceSub, Nat.reduceMul, Nat.reduceEqDiff, Nat.reduceBEq, Nat.reduceLeDiff, Int.reduceToNat, Int.reduceLT, Int.reduceLE, Int.reduceEq, reduceCtorEq, ↓reduceIte, i22, c22, w10]
  cases b12 : (v11 : Bool)
  · replace h := br_f b12 h
    obtain ⟨r15, q13, h⟩ := bnd_some h
    have w14 := e51 a0 r15 q13
    try simp -implicitDefEqProofs only [go_sem, Nat.reduceLT, Nat.reduceAdd, Nat.reduceSub, Nat.reduceMul, Nat.reduceEqDiff, Nat.reduceBEq, Nat.reduceLeDiff, Int.reduceToNat, Int.reduceLT, Int.reduceLE, Int.reduceEq, reduceCtorEq, ↓reduceIte] at w14
    obtain ⟨r18, q16, h⟩ := bnd_some h
    have w17 := e51 a1 r18 q16
    try simp -implicitDefEqProofs only [go_sem, Nat.reduceLT, Nat.reduceAdd, Nat.reduceSub, Nat.reduceMul, Nat.reduceEqDiff, Nat.reduceBEq, Nat.reduceLeDiff, Int.reduceToNat, Int.reduceLT, Int.reduceLE, Int.reduceEq, reduceCtorEq, ↓reduceIte] at w17
    try simp -implicitDefEqProofs only [go_sem, Nat.reduceLT, Nat.reduceAdd, Nat.reduceSub, Nat.reduceMul, Nat.reduceEqDiff, Nat.reduceBEq, Nat.reduceLeDiff, Int.reduceToNat, Int.reduceLT, Int.reduceLE, Int.reduceEq, reduceCtorEq, ↓reduceIte, i22, c22, w10, b12, w14, w17]
    cases b19 : (ltI 12 (wadd .i64 (wmul .i64 r15 r18) 1) : Bool)
    · replace h := br_f b19 h
      obtain ⟨v399, q397, h⟩ := bnd_some h
      have w398 := e22_2 a0 (↑a0.apply.length : Int) a1 (wadd .i64 (wmul .i64 r15 r18) 1) (0, []) v399 q397
      simp only [E22_2, X22_2] at w398
      try simp -implicitDefEqProofs only [go_sem, Nat.reduceLT, Nat.reduceAdd, Nat.reduceSub, Nat.reduceMul, Nat.reduceEqDiff, Nat.reduceBEq, Nat.reduceLeDiff, Int.reduceToNat, Int.reduceLT, Int.reduceLE, Int.reduceEq, reduceCtorEq, ↓reduceIte] at w398
      cases h
      simp -implicitDefEqProofs only [go_sem, Nat.reduceLT, Nat.reduceAdd, Nat.reduceSub, Nat.reduceMul, Nat.reduceEqDiff, Nat.reduceBEq, Nat.reduceLeDiff, Int.reduceToNat, Int.reduceLT, Int.reduceLE, Int.reduceEq, reduceCtorEq, ↓reduceIte, i22, c22, w10, b12, w14, w17, b19, w398]
    · replace h := br_t b19 h
      cases h
      simp -implicitDefEqProofs only [go_sem, Nat.reduceLT, Nat.reduceAdd, Nat.reduceSub, Nat.reduceMul, Nat.reduceEqDiff, Nat.reduceBEq, Nat.reduceLeDiff, Int.reduceToNat, Int.reduceLT, Int.reduceLE, Int.reduceEq, reduceCtorEq, ↓reduceIte, i22, c22, w10, b12, w14, w17, b19]
  · replace h := br_t b12 h
    cases h
    simp -implicitDefEqProofs only [go_sem, Nat.reduceLT, Nat.reduceAdd, Nat.reduceSub, Nat.reduceMul, Nat.reduceEqDiff, Nat.reduceBEq, Nat.reduceLeDiff, Int.reduceToNat, Int.reduceLT, Int.reduceLE, Int.reduceEq, reduceCtorEq, ↓reduceIte, i22, c22, w10, b12]
-- f31 laws.eqIntS
theorem call31 (args : List AV) (S : St) : evCall T (evFL T) 31 args S = lendC (evFL T 31) S (lendAll S [[1], [1]] args) := evCall0 fn31 rfl rfl rfl args S
theorem callz31 (args : List AV) (S : St) : evCallFz T (evFL T) 31 args S = lendZ (evFL T 31) S [[0]] (lendAll S [[1], [1]] args) := evCallFz0 fn31 rfl rfl rfl args S
theorem calls31 (args : List AV) (S : St) : evCall (T.at true) (evFL T) 31 args S = lendC (evFL T 31) S (lendAll S [[1], [1]] args) := evCall0 fns31 rfl rfl rfl args S
theorem callsz31 (args : List AV) (S : St) : evCallFz (T.at true) (evFL T) 31 args S = lendZ (evFL T 31) S [[0]] (lendAll S [[1], [1]] args) := evCallFz0 fns31 rfl rfl rfl args S
attribute [go_sem] call31 callz31 calls31 callsz31
noncomputable def X31_1 (a0 : (List Int)) (a1 : (List Int)) (o : (Unit ⊕ Unit)) : Ex × Fr × St :=
  match o with
  | .inl o => (.exit 0, frOf 26 (anyF), [])
  | .inr o => (.ret, frOf 26 (upd anyF 4 (.bool false)), [])
noncomputable def E31_1 (a0 : (List Int)) (a1 : (List Int)) (s : Int) : Fr × St := (frOf 26 (upd (upd (upd anyF 0 (.ts .imm 1 (a0.map encInt))) 1 (.ts .imm 1 (a1.map encInt))) 5 (.int .i64 s)), [])
theorem b31_1 (a0 : (List Int)) (a1 : (List Int)) (s : Int) (o : Ctl Int (Unit ⊕ Unit)) (h : m31_1b a0 a1 s = some o) : evCL T 0 k31_1b (E31_1 a0 a1 s).1 (E31_1 a0 a1 s).2 = some (ctlX (E31_1 a0 a1) (X31_1 a0 a1) o) := by
  unfold m31_1b at h
  revert h
  generalize s = s14
  intro h
  try simp -implicitDefEqProofs only [go_sem, Nat.reduceLT, Nat.reduceAdd, Nat.reduceSub, Nat.reduceMul, Nat.reduceEqDiff, Nat.reduceBEq, Nat.reduceLeDiff, Int.reduceToNat, Int.reduceLT, Int.reduceLE, Int.reduceEq, reduceCtorEq, ↓reduceIte, E31_1, X31_1, k31_1b]
  cases b15 : (ltI s14 (↑a0.length : Int) : Bool)
  · replace h := br_f b15 h
    cases h
    simp -implicitDefEqProofs only [go_sem, Nat.reduceLT, Nat.reduceAdd, Nat.reduceSub, Nat.reduceMul, Nat.reduceEqDiff, Nat.reduceBEq, Nat.reduceLeDiff, Int.reduceToNat, Int.reduceLT, Int.reduceLE, Int.reduceEq, reduceCtorEq, ↓reduceIte, E31_1, X31_1, k31_1b, b15]
  · replace h := br_t b15 h
    obtain ⟨x16, q17, h⟩ := bnd_some h
    obtain ⟨g18, g19, g20⟩ := idx_row encInt q17
    try simp -implicitDefEqProofs only [go_sem, Nat.reduceLT, Nat.reduceAdd, Nat.reduceSub, Nat.reduceMul, Nat.reduceEqDiff, Nat.reduceBEq, Nat.reduceLeDiff, Int.reduceToNat, Int.reduceLT, Int.reduceLE, Int.reduceEq, reduceCtorEq, ↓reduceIte] at g19
    try simp -implicitDefEqProofs only [go_sem, Nat.reduceLT, Nat.reduceAdd, Nat.reduceSub, Nat.reduceMul, Nat.reduceEqDiff, Nat.reduceBEq, Nat.reduceLeDiff, Int.reduceToNat, Int.reduceLT, Int.reduceLE, Int.reduceEq, reduceCtorEq, ↓reduceIte] at g20
    obtain ⟨x21, q22, h⟩ := bnd_some h
    obtain ⟨g23, g24, g25⟩ := idx_row encInt q22
    try simp -implicitDefEqProofs only [go_sem, Nat.reduceLT, Nat.reduceAdd, Nat.reduceSub, Nat.reduceMul, Nat.reduceEqDiff, Nat.reduceBEq, Nat.reduceLeDiff, Int.reduceToNat, Int.reduceLT, Int.reduceLE, Int.reduceEq, reduceCtorEq, ↓reduceIte] at g24
    try simp -implicitDefEqProofs only [go_sem, Nat.reduceLT, Nat.reduceAdd, Nat.reduceSub, Nat.reduceMul, Nat.reduceEqDiff, Nat.reduceBEq, Nat.reduceLeDiff, Int.reduceToNat, Int.reduceLT, Int.reduceLE, Int.reduceEq, reduceCtorEq, ↓reduceIte] at g25
    try simp -implicitDefEqProofs only [go_sem, Nat.reduceLT, Nat.reduceAdd, Nat.reduceSub, Nat.reduceMul, Nat.reduceEqDiff, Nat.reduceBEq, Nat.reduceLeDiff, Int.reduceToNat, Int.reduceLT, Int.reduceLE, Int.reduceEq, reduceCtorEq, ↓reduceIte, E31_1, X31_1, k31_1b, b15, g18, g19, g20, g23, g24, g25]
    cases b26 : (eqI x16 x21 : Bool)
    · replace h := br_f b26 h
      cases h
      simp -implicitDefEqProofs only [go_sem, Nat.reduceLT, Nat.reduceAdd, Nat.reduceSub, Nat.reduceMul, Nat.reduceEqDiff, Nat.reduceBEq, Nat.reduceLeDiff, Int.reduceToNat, Int.reduceLT, Int.reduceLE, Int.reduceEq, reduceCtorEq, ↓reduceIte, E31_1, X31_1, k31_1b, b15, g18, g19, g20, g23, g24, g25, b26]
    · replace h := br_t b26 h
      cases h
      simp -implicitDefEqProofs only [go_sem, Nat.reduceLT, Nat.reduceAdd, Nat.reduceSub, Nat.reduceMul, Nat.reduceEqDiff, Nat.reduceBEq, Nat.reduceLeDiff, Int.reduceToNat, Int.reduceLT, Int.reduceLE, Int.reduceEq, reduceCtorEq, ↓reduceIte, E31_1, X31_1, k31_1b, b15, g18, g19, g20, g23, g24, g25, b26]
theorem e31_1 (a0 : (List Int)) (a1 : (List Int)) (s : Int) (o : (Unit ⊕ Unit)) (h : loopP (m31_1b a0 a1) s = some o) : evCL T 0 (.loop k31_1b) (E31_1 a0 a1 s).1 (E31_1 a0 a1 s).2 = some (X31_1 a0 a1 o) :=
  loop_walk (E := E31_1 a0 a1) (X := X31_1 a0 a1) (by intro b; rcases b with b | b <;> (simp only [X31_1]; nofun)) (b31_1 a0 a1) s o h
theorem e31 (a0 : (List Int)) (a1 : (List Int)) (r : Bool) (h : m31 a0 a1 = some r) : evFL T 31 [.ts .imm 1 (a0.map encInt), .ts .imm 1 (a1.map encInt)] [] = some (.bool r, []) := by
  unfold m31 at h
  rw [evFL_at fn31 (Nat.le_of_ble_eq_true rfl) rfl (.inr rfl) ⟨rfl, rfl⟩]
  try simp -implicitDefEqProofs only [go_sem, Nat.reduceLT, Nat.reduceAdd, Nat.reduceSub, Nat.reduceMul, Nat.reduceEqDiff, Nat.reduceBEq, Nat.reduceLeDiff, Int.reduceToNat, Int.reduceLT, Int.reduceLE, Int.reduceEq, reduceCtorEq, ↓reduceIte, i31, c31]
  cases b1 : (eqI (↑a0.length : Int) (↑a1.length : Int) : Bool)
  · replace h := br_f b1 h
    cases h
    simp -implicitDefEqProofs only [go_sem, Nat.reduceLT, Nat.reduceAdd, Nat.reduceSub, Nat.reduceMul, Nat.reduceEqDiff, Nat.reduceBEq, Nat.reduceLeDiff, Int.reduceToNat, Int.reduceLT, Int.reduceLE, Int.reduceEq, reduceCtorEq, ↓reduceIte, i31, c31, b1]
  · replace h := br_t b1 h
    try simp -implicitDefEqProofs only [go_sem, Nat.reduceLT, Nat.reduceAdd, Nat.reduceSub, Nat.reduceMul, Nat.reduceEqDiff, Nat.reduceBEq, Nat.reduceLeDiff, Int.reduceToNat, Int.reduceLT, Int.reduceLE, Int.reduceEq, reduceCtorEq, ↓reduceIte, i31, c31, b1]
    obtain ⟨o, q27, h⟩ := bnd_some h
    rcases o with ⟨⟩ | ⟨⟩
    · replace h := selS_l h
      have w28 := e31_1 a0 a1 0 (.inl ()) q27
      simp only [E31_1, X31_1] at w28
      try simp -implicitDefEqProofs only [go_sem, Nat.reduceLT, Nat.reduceAdd, Nat.reduceSub, Nat.reduceMul, Nat.reduceEqDiff, Nat.reduceBEq, Nat.reduceLeDiff, Int.reduceToNat, Int.reduceLT, Int.reduceLE, Int.reduceEq, reduceCtorEq, ↓reduceIte] at w28
      cases h
      simp -implicitDefEqProofs only [go_sem, Nat.reduceLT, Nat.reduceAdd, Nat.reduceSub, Nat.reduceMul, Nat.reduceEqDiff, Nat.reduceBEq, Nat.reduceLeDiff, Int.reduceToNat, Int.reduceLT, Int.reduceLE, Int.reduceEq, reduceCtorEq, ↓reduceIte, i31, c31, b1, w28]
    · replace h := selS_r h
      have w28 := e31_1 a0 a1 0 (.inr ()) q27
      simp only [E31_1, X31_1] at w28
      try simp -implicitDefEqProofs only [go_sem, Nat.reduceLT, Nat.reduceAdd, Nat.reduceSub, Nat.reduceMul, Nat.reduceEqDiff, Nat.reduceBEq, Nat.reduceLeDiff, Int.reduceToNat, Int.reduceLT, Int.reduceLE, Int.reduceEq, reduceCtorEq, ↓reduceIte] at w28
      cases h
      simp -implicitDefEqProofs only [go_sem, Nat.reduceLT, Nat.reduceAdd, Nat.reduceSub, Nat.reduceMul, Nat.reduceEqDiff, Nat.reduceBEq, Nat.reduceLeDiff, Int.reduceToNat, Int.reduceLT, Int.reduceLE, Int.reduceEq, reduceCtorEq, ↓reduceIte, i31, c31, b1, w28]
-- f54 laws.eqIntSS
theorem call54 (args : List AV) (S : St) : evCall T (evFL T) 54 args S = lendC (evFL T 54) S (lendAll S [[1], [1]] args) := evCall0 fn54 rfl rfl rfl args S
theorem callz54 (args : List AV) (S : St) : evCallFz T (evFL T) 54 args S = lendZ (evFL T 54) S [[0]] (lendAll S [[1], [1]] args) := evCallFz0 fn54 rfl rfl rfl args S
theorem calls54 (args : List AV) (S : St) : evCall (T.at true) (evFL T) 54 args S = lendC (evFL T 54) S (lendAll S [[1], [1]] args) := evCall0 fns54 rfl rfl rfl args S
theorem callsz54 (args : List AV) (S : St) : evCallFz (T.at true) (evFL T) 54 args S = lendZ (evFL T 54) S [[0]] (lendAll S [[1], [1]] args) := evCallFz0 fns54 rfl rfl rfl args S
attribute [go_sem] call54 callz54 calls54 callsz54
noncomputable def X54_1 (a0 : (List (List Int))) (a1 : (List (List Int))) (o : (Unit ⊕ Unit)) : Ex × Fr × St :=
  match o with
  | .inl o => (.exit 0, frOf 27 (anyF), [])
  | .inr o => (.ret, frOf 27 (upd anyF 4 (.bool false)), [])
noncomputable def E54_1 (a0 : (List (List Int))) (a1 : (List (List Int))) (s : Int) : Fr × St := (frOf 27 (upd (upd (upd anyF 0 (.ts .imm 1 (a0.map (encLInt .imm)))) 1 (.ts .imm 1 (a1.map (encLInt .imm)))) 5 (.int .i64 s)), [])
theorem b54_1 (a0 : (List (List Int))) (a1 : (List (List Int))) (s : Int) (o : Ctl Int (Unit ⊕ Unit)) (h : m54_1b a0 a1 s = some o) : evCL T 0 k54_1b (E54_1 a0 a1 s).1 (E54_1 a0 a1 s).2 = some (ctlX (E54_1 a0 a1) (X54_1 a0 a1) o) := by
  unfold m54_1b at h
  revert h
  generalize s = s17
  intro h
  try simp -implicitDefEqProofs only [go_sem, Nat.reduceLT, Nat.reduceAdd, Nat.reduceSub, Nat.reduceMul, Nat.reduceEqDiff, Nat.reduceBEq, Nat.reduceLeDiff, Int.reduceToNat, Int.reduceLT, Int.reduceLE, Int.reduceEq, reduceCtorEq, ↓reduceIte, E54_1, X54_1, k54_1b]
  cases b18 : (ltI s17 (↑a0.length : Int) : Bool)
  · replace h := br_f b18 h
    cases h
    simp -implicitDefEqProofs only [go_sem, Nat.reduceLT, Nat.reduceAdd, Nat.reduceSub, Nat.reduceMul, Nat.reduceEqDiff, Nat.reduceBEq, Nat.reduceLeDiff, Int.reduceToNat, Int.reduceLT, Int.reduceLE, Int.reduceEq, reduceCtorEq, ↓reduceIte, E54_1, X54_1, k54_1b, b18]
  · replace h := br_t b18 h
    obtain ⟨x19, q20, h⟩ := bnd_some h
    obtain ⟨g21, g22, g23⟩ := idx_row (encLInt .imm) q20
    try simp -implicitDefEqProofs only [go_sem, Nat.reduceLT, Nat.reduceAdd, Nat.reduceSub, Nat.reduceMul, Nat.reduceEqDiff, Nat.reduceBEq, Nat.reduceLeDiff, Int.reduceToNat, Int.reduceLT, Int.reduceLE, Int.reduceEq, reduceCtorEq, ↓reduceIte] at g22
    try simp -implicitDefEqProofs only [go_sem, Nat.reduceLT, Nat.reduceAdd, Nat.reduceSub, Nat.reduceMul, Nat.reduceEqDiff, Nat.reduceBEq, Nat.reduceLeDiff, Int.reduceToNat, Int.reduceLT, Int.reduceLE, Int.reduceEq, reduceCtorEq, ↓reduceIte] at g23
    obtain ⟨x24, q25, h⟩ := bnd_some h
    obtain ⟨g26, g27, g28⟩ := idx_row (encLInt .imm) q25
    try simp -implicitDefEqProofs only [go_sem, Nat.reduceLT, Nat.reduceAdd, Nat.reduceSub, Nat.reduceMul, Nat.reduceEqDiff, Nat.reduceBEq, Nat.reduceLeDiff, Int.reduceToNat, Int.reduceLT, Int.reduceLE, Int.reduceEq, reduceCtorEq, ↓reduceIte] at g27
    try simp -implicitDefEqProofs only [go_sem, Nat.reduceLT, Nat.reduceAdd, Nat.reduceSub, Nat.reduceMul, Nat.reduceEqDiff, Nat.reduceBEq, Nat.reduceLeDiff, Int.reduceToNat, Int.reduceLT, Int.reduceLE, Int.reduceEq, reduceCtorEq, ↓reduceIte] at g28
    obtain ⟨r31, q29, h⟩ := bnd_some h
    have w30 := e31 x19 x24 r31 q29
    try simp -implicitDefEqProofs only [go_sem, Nat.reduceLT, Nat.reduceAdd, Nat.reduceSub, Nat.reduceMul, Nat.reduceEqDiff, Nat.reduceBEq, Nat.reduceLeDiff, Int.reduceToNat, Int.reduceLT, Int.reduceLE, Int.reduceEq, reduceCtorEq, ↓reduceIte] at w30
    try simp -implicitDefEqProofs only [go_sem, Nat.reduceLT, Nat.reduceAdd, Nat.reduceSub, Nat.reduceMul, Nat.reduceEqDiff, Nat.reduceBEq, Nat.reduceLeDiff, Int.reduceToNat, Int.reduceLT, Int.reduceLE, Int.reduceEq, reduceCtorEq, ↓reduceIte, E54_1, X54_1, k54_1b, b18, g21, g22, g23, g26, g27, g28, w30]
    cases b32 : (r31 : Bool)
    · replace h := br_f b32 h
      cases h
      simp -implicitDefEqProofs only [go_sem, Nat.reduceLT, Nat.reduceAdd, Nat.reduceSub, Nat.reduceMul, Nat.reduceEqDiff, Nat.reduceBEq, Nat.reduceLeDiff, Int.reduceToNat, Int.reduceLT, Int.reduceLE, Int.reduceEq, reduceCtorEq, ↓reduceIte, E54_1, X54_1, k54_1b, b18, g21, g22, g23, g26, g27, g28, w30, b32]
    · replace h := br_t b32 h
      cases h
      simp -implicitDefEqProofs only [go_sem, Nat.reduceLT, Nat.reduceAdd, Nat.reduceSub, Nat.reduceMul, Nat.reduceEqDiff, Nat.reduceBEq, Nat.reduceLeDiff, Int.reduceToNat, Int.reduceLT, Int.reduceLE, Int.reduceEq, reduceCtorEq, ↓reduceIte, E54_1, X54_1, k54_1b, b18, g21, g22, g23, g26, g27, g28, w30, b32]
theorem e54_1 (a0 : (List (List Int))) (a1 : (List (List Int))) (s : Int) (o : (Unit ⊕ Unit)) (h : loopP (m54_1b a0 a1) s = some o) : evCL T 0 (.loop k54_1b) (E54_1 a0 a1 s).1 (E54_1 a0 a1 s).2 = some (X54_1 a0 a1 o) :=
  loop_walk (E := E54_1 a0 a1) (X := X54_1 a0 a1) (by intro b; rcases b with b | b <;> (simp only [X54_1]; nofun)) (b54_1 a0 a1) s o h
theorem e54 (a0 : (List (List Int))) (a1 : (List (List Int))) (r : Bool) (h : m54 a0 a1 = some r) : evFL T 54 [.ts .imm 1 (a0.map (encLInt .imm)), .ts .imm 1 (a1.map (encLInt .imm))] [] = some (.bool r, []) := by
  unfold m54 at h
  rw [evFL_at fn54 (Nat.le_of_ble_eq_true rfl) rfl (.inr rfl) ⟨rfl, rfl⟩]
  try simp -implicitDefEqProofs only [go_sem, Nat.reduceLT, Nat.reduceAdd, Nat.reduceSub, Nat.reduceMul, Nat.reduceEqDiff, Nat.reduceBEq, Nat.reduceLeDiff, Int.reduceToNat, Int.reduceLT, Int.reduceLE, Int.reduceEq, reduceCtorEq, ↓reduceIte, i54, c54]
  cases b1 : (eqI (↑a0.length : Int) (↑a1.length : Int) : Bool)
  · replace h := br_f b1 h
    cases h
    simp -implicitDefEqProofs only [go_sem, Nat.reduceLT, Nat.reduceAdd, Nat.reduceSub, Nat.reduceMul, Nat.reduceEqDiff, Nat.reduceBEq, Nat.reduceLeDiff, Int.reduceToNat, Int.reduceLT, Int.reduceLE, Int.reduceEq, reduceCtorEq, ↓reduceIte, i54, c54, b1]
  · replace h := br_t b1 h
    try simp -implicitDefEqProofs only [go_sem, Nat.reduceLT, Nat.reduceAdd, Nat.reduceSub, Nat.reduceMul, Nat.reduceEqDiff, Nat.reduceBEq, Nat.reduceLeDiff, Int.reduceToNat, Int.reduceLT, Int.reduceLE, Int.reduceEq, reduceCtorEq, ↓reduceIte, i54, c54, b1]
    obtain ⟨o, q33, h⟩ := bnd_some h
    rcases o with ⟨⟩ | ⟨⟩
    · replace h := selS_l h
      have w34 := e54_1 a0 a1 0 (.inl ()) q33
      simp only [E54_1, X54_1] at w34
      try simp -implicitDefEqProofs only [go_sem, Nat.reduceLT, Nat.reduceAdd, Nat.reduceSub, Nat.reduceMul, Nat.reduceEqDiff, Nat.reduceBEq, Nat.reduceLeDiff, Int.reduceToNat, Int.reduceLT, Int.reduceLE, Int.reduceEq, reduceCtorEq, ↓reduceIte] at w34
      cases h
      simp -implicitDefEqProofs only [go_sem, Nat.reduceLT, Nat.reduceAdd, Nat.reduceSub, Nat.reduceMul, Nat.reduceEqDiff, Nat.reduceBEq, Nat.reduceLeDiff, Int.reduceToNat, Int.reduceLT, Int.reduceLE, Int.reduceEq, reduceCtorEq, ↓reduceIte, i54, c54, b1, w34]
    · replace h := selS_r h
      have w34 := e54_1 a0 a1 0 (.inr ()) q33
      simp only [E54_1, X54_1] at w34
      try simp -implicitDefEqProofs only [go_sem, Nat.reduceLT, Nat.reduceAdd, Nat.reduceSub, Nat.reduceMul, Nat.reduceEqDiff, Nat.reduceBEq, Nat.reduceLeDiff, Int.reduceToNat, Int.reduceLT, Int.reduceLE, Int.reduceEq, reduceCtorEq, ↓reduceIte] at w34
      cases h
      simp -implicitDefEqProofs only [go_sem, Nat.reduceLT, Nat.reduceAdd, Nat.reduceSub, Nat.reduceMul, Nat.reduceEqDiff, Nat.reduceBEq, Nat.reduceLeDiff, Int.reduceToNat, Int.reduceLT, Int.reduceLE, Int.reduceEq, reduceCtorEq, ↓reduceIte, i54, c54, b1, w34]
-- f16 laws.eqAlgebra
theorem call16 (args : List AV) (S : St) : evCall T (evFL T) 16 args S = lendC (evFL T 16) S (lendAll S [[0, 1], [0, 1]] args) := evCall0 fn16 rfl rfl rfl args S
theorem callz16 (args : List AV) (S : St) : evCallFz T (evFL T) 16 args S = lendZ (evFL T 16) S [[0]] (lendAll S [[0, 1], [0, 1]] args) := evCallFz0 fn16 rfl rfl rfl args S
theorem calls16 (args : List AV) (S : St) : evCall (T.at true) (evFL T) 16 args S = lendC (evFL T 16) S (lendAll S [[0, 1], [0, 1]] args) := evCall0 fns16 rfl rfl rfl args S
theorem callsz16 (args : List AV) (S : St) : evCallFz (T.at true) (evFL T) 16 args S = lendZ (evFL T 16) S [[0]] (lendAll S [[0, 1], [0, 1]] args) := evCallFz0 fns16 rfl rfl rfl args S
attribute [go_sem] call16 callz16 calls16 callsz16
theorem e16 (a0 : Algebra) (a1 : Algebra) (r : Bool) (h : m16 a0 a1 = some r) : evFL T 16 [.agg [.int .i64 a0.weights, .ts .imm 1 (a0.apply.map (encLInt .imm))], .agg [.int .i64 a1.weights, .ts .imm 1 (a1.apply.map (encLInt .imm))]] [] = some (.bool r, []) := by
  unfold m16 at h
  rw [evFL_at fn16 (Nat.le_of_ble_eq_true rfl) rfl (.inr rfl) ⟨rfl, rfl⟩]
  try simp -implicitDefEqProofs only [go_sem, Nat.reduceLT, Nat.reduceAdd, Nat.reduceSub, Nat.reduceMul, Nat.reduceEqDiff, Nat.reduceBEq, Nat.reduceLeDiff, Int.reduceToNat, Int.reduceLT, Int.reduceLE, Int.reduceEq, reduceCtorEq, ↓reduceIte, i16, c16]
  cases b1 : (eqI a0.weights a1.weights : Bool)
  · replace h := br_f b1 h
    cases h
    simp -implicitDefEqProofs only [go_sem, Nat.reduceLT, Nat.reduceAdd, Nat.reduceSub, Nat.reduceMul, Nat.reduceEqDiff, Nat.reduceBEq, Nat.reduceLeDiff, Int.reduceToNat, Int.reduceLT, Int.reduceLE, Int.reduceEq, reduceCtorEq, ↓reduceIte, i16, c16, b1]
  · replace h := br_t b1 h
    obtain ⟨r4, q2, h⟩ := bnd_some h
    have w3 := e54 a0.apply a1.apply r4 q2
    try simp -implicitDefEqProofs only [go_sem, Nat.reduceLT, Nat.reduceAdd, Nat.reduceSub, Nat.reduceMul, Nat.reduceEqDiff, Nat.reduceBEq, Nat.reduceLeDiff, Int.reduceToNat, Int.reduceLT, Int.reduceLE, Int.reduceEq, reduceCtorEq, ↓reduceIte] at w3
    try simp -implicitDefEqProofs only [go_sem, Nat.reduceLT, Nat.reduceAdd, Nat.reduceSub, Nat.reduceMul, Nat.reduceEqDiff, Nat.reduceBEq, Nat.reduceLeDiff, Int.reduceToNat, Int.reduceLT, Int.reduceLE, Int.reduceEq, reduceCtorEq, ↓reduceIte, i16, c16, b1, w3]
    cases b5 : (r4 : Bool)
    · replace h := br_f b5 h
      cases h
      simp -implicitDefEqProofs only [go_sem, Nat.reduceLT, Nat.reduceAdd, Nat.reduceSub, Nat.reduceMul, Nat.reduceEqDiff, Nat.reduceBEq, Nat.reduceLeDiff, Int.reduceToNat, Int.reduceLT, Int.reduceLE, Int.reduceEq, reduceCtorEq, ↓reduceIte, i16, c16, b1, w3, b5]
    · replace h := br_t b5 h
      cases h
      simp -implicitDefEqProofs only [go_sem, Nat.reduceLT, Nat.reduceAdd, Nat.reduceSub, Nat.reduceMul, Nat.reduceEqDiff, Nat.reduceBEq, Nat.reduceLeDiff, Int.reduceToNat, Int.reduceLT, Int.reduceLE, Int.reduceEq, reduceCtorEq, ↓reduceIte, i16, c16, b1, w3, b5]
-- f35 laws.markIntS
theorem call35 (args : List AV) (S : St) : evCall T (evFL T) 35 args S = c3A true true (evFL T 35) (rawAll S [[1], [0]] args) := evCall3_g fn35 rfl (fun h => absurd h.1 (by decide)) args S
theorem calls35 (args : List AV) (S : St) : evCall (T.at true) (evFL T) 35 args S = c3A false true (evFL T 35) (rawAll S [[1], [0]] args) := evCall3_g fns35 rfl (fun h => absurd h.1 (by decide)) args S
attribute [go_sem] call35 calls35
noncomputable def X35_1 (o : (Int × List Int)) : Ex × Fr × St :=
  (.exit 0, frOf 19 (upd anyF 1 (.int .i64 o.1)), [some ⟨.arr, 1, o.2.map encInt⟩])
noncomputable def E35_1 (s : (Int × Int × List Int)) : Fr × St := (frOf 19 (upd (upd (upd anyF 0 (.sl 0 0 s.2.2.length)) 1 (.int .i64 s.1)) 5 (.int .i64 s.2.1)), [some ⟨.arr, 1, s.2.2.map encInt⟩])
theorem b35_1 (s : (Int × Int × List Int)) (o : Ctl (Int × Int × List Int) (Int × List Int)) (h : m35_1b s = some o) : evCL T 1 k35_1b (E35_1 s).1 (E35_1 s).2 = some (ctlX (E35_1) (X35_1) o) := by
  unfold m35_1b at h
  obtain ⟨s7, s8, s9⟩ := s
  replace h := sel3_some h
  try simp -implicitDefEqProofs only [go_sem, Nat.reduceLT, Nat.reduceAdd, Nat.reduceSub, Nat.reduceMul, Nat.reduceEqDiff, Nat.reduceBEq, Nat.reduceLeDiff, Int.reduceToNat, Int.reduceLT, Int.reduceLE, Int.reduceEq, reduceCtorEq, ↓reduceIte, E35_1, X35_1, k35_1b]
  cases b10 : (ltI s8 (↑s9.length : Int) : Bool)
  · replace h := br_f b10 h
    cases h
    simp -implicitDefEqProofs only [go_sem, Nat.reduceLT, Nat.reduceAdd, Nat.reduceSub, Nat.reduceMul, Nat.reduceEqDiff, Nat.reduceBEq, Nat.reduceLeDiff, Int.reduceToNat, Int.reduceLT, Int.reduceLE, Int.reduceEq, reduceCtorEq, ↓reduceIte, E35_1, X35_1, k35_1b, b10]
  · replace h := br_t b10 h
    obtain ⟨x11, q12, h⟩ := bnd_some h
    obtain ⟨g13, g14, g15⟩ := idx_row encInt q12
    try simp -implicitDefEqProofs only [go_sem, Nat.reduceLT, Nat.reduceAdd, Nat.reduceSub, Nat.reduceMul, Nat.reduceEqDiff, Nat.reduceBEq, Nat.reduceLeDiff, Int.reduceToNat, Int.reduceLT, Int.reduceLE, Int.reduceEq, reduceCtorEq, ↓reduceIte] at g14
    try simp -implicitDefEqProofs only [go_sem, Nat.reduceLT, Nat.reduceAdd, Nat.reduceSub, Nat.reduceMul, Nat.reduceEqDiff, Nat.reduceBEq, Nat.reduceLeDiff, Int.reduceToNat, Int.reduceLT, Int.reduceLE, Int.reduceEq, reduceCtorEq, ↓reduceIte] at g15
    cases h
    simp -implicitDefEqProofs only [go_sem, Nat.reduceLT, Nat.reduceAdd, Nat.reduceSub, Nat.reduceMul, Nat.reduceEqDiff, Nat.reduceBEq, Nat.reduceLeDiff, Int.reduceToNat, Int.reduceLT, Int.reduceLE, Int.reduceEq, reduceCtorEq, ↓reduceIte, E35_1, X35_1, k35_1b, b10, g13, g14, g15]
theorem e35_1 (s : (Int × Int × List Int)) (o : (Int × List Int)) (h : loopP (m35_1b) s = some o) : evCL T 1 (.loop k35_1b) (E35_1 s).1 (E35_1 s).2 = some (X35_1 o) :=
  loop_walk (E := E35_1) (X := X35_1) (by intro b; (simp only [X35_1]; nofun)) (b35_1) s o h
theorem e35 (a0 : (List Int)) (a1 : Int) (r : (Int × List Int)) (h : m35 a0 a1 = some r) : evFL T 35 [.sl 0 0 a0.length, .int .i64 a1] [some ⟨.arr, 1, a0.map encInt⟩] = some (.int .i64 r.1, [some ⟨.arr, 1, r.2.map encInt⟩]) := by
  unfold m35 at h
  rw [evFL_at fn35 (Nat.le_of_ble_eq_true rfl) rfl (.inl rfl) ⟨rfl, rfl⟩]
  obtain ⟨⟨v18, v19⟩, q16, h⟩ := bnd_some h
  replace h := sel2_some h
  have w17 := e35_1 (a1, 0, a0) (v18, v19) q16
  simp only [E35_1, X35_1] at w17
  try simp -implicitDefEqProofs only [go_sem, Nat.reduceLT, Nat.reduceAdd, Nat.reduceSub, Nat.reduceMul, Nat.reduceEqDiff, Nat.reduceBEq, Nat.reduceLeDiff, Int.reduceToNat, Int.reduceLT, Int.reduceLE, Int.reduceEq, reduceCtorEq, ↓reduceIte] at w17
  cases h
  simp -implicitDefEqProofs only [go_sem, Nat.reduceLT, Nat.reduceAdd, Nat.reduceSub, Nat.reduceMul, Nat.reduceEqDiff, Nat.reduceBEq, Nat.reduceLeDiff, Int.reduceToNat, Int.reduceLT, Int.reduceLE, Int.reduceEq, reduceCtorEq, ↓reduceIte, i35, c35, w17]
-- f57 laws.markIntSS
theorem calls57 (args : List AV) (S : St) : evCall (T.at true) (evFL T) 57 args S = c3A true true (evFL T 57) (rawAll S [[1], [0]] args) := evCall3_g fns57 rfl (fun h => absurd h.2 (by decide)) args S
attribute [go_sem] calls57
noncomputable def X57_1 (o : (Int × List (List Int))) : Ex × Fr × St :=
  (.exit 0, frOf 19 (upd anyF 1 (.int .i64 o.1)), [some ⟨.arr, 1, o.2.map (encLInt .own)⟩])
noncomputable def E57_1 (s : (Int × Int × List (List Int))) : Fr × St := (frOf 19 (upd (upd (upd anyF 0 (.sl 0 0 s.2.2.length)) 1 (.int .i64 s.1)) 5 (.int .i64 s.2.1)), [some ⟨.arr, 1, s.2.2.map (encLInt .own)⟩])
theorem b57_1 (s : (Int × Int × List (List Int))) (o : Ctl (Int × Int × List (List Int)) (Int × List (List Int))) (h : m57_1b s = some o) : evCL (T.at true) 1 k57_1b (E57_1 s).1 (E57_1 s).2 = some (ctlX (E57_1) (X57_1) o) := by
  unfold m57_1b at h
  obtain ⟨s12, s13, s14⟩ := s
  replace h := sel3_some h
  try simp -implicitDefEqProofs only [go_sem, Nat.reduceLT, Nat.reduceAdd, Nat.reduceSub, Nat.reduceMul, Nat.reduceEqDiff, Nat.reduceBEq, Nat.reduceLeDiff, Int.reduceToNat, Int.reduceLT, Int.reduceLE, Int.reduceEq, reduceCtorEq, ↓reduceIte, E57_1, X57_1, k57_1b]
  cases b15 : (ltI s13 (↑s14.length : Int) : Bool)
  · replace h := br_f b15 h
    cases h
    simp -implicitDefEqProofs only [go_sem, Nat.reduceLT, Nat.reduceAdd, Nat.reduceSub, Nat.reduceMul, Nat.reduceEqDiff, Nat.reduceBEq, Nat.reduceLeDiff, Int.reduceToNat, Int.reduceLT, Int.reduceLE, Int.reduceEq, reduceCtorEq, ↓reduceIte, E57_1, X57_1, k57_1b, b15]
  · replace h := br_t b15 h
    obtain ⟨x16, q17, h⟩ := bnd_some h
    obtain ⟨g18, g19, g20⟩ := idx_row (encLInt .own) q17
    try simp -implicitDefEqProofs only [go_sem, Nat.reduceLT, Nat.reduceAdd, Nat.reduceSub, Nat.reduceMul, Nat.reduceEqDiff, Nat.reduceBEq, Nat.reduceLeDiff, Int.reduceToNat, Int.reduceLT, Int.reduceLE, Int.reduceEq, reduceCtorEq, ↓reduceIte] at g19
    try simp -implicitDefEqProofs only [go_sem, Nat.reduceLT, Nat.reduceAdd, Nat.reduceSub, Nat.reduceMul, Nat.reduceEqDiff, Nat.reduceBEq, Nat.reduceLeDiff, Int.reduceToNat, Int.reduceLT, Int.reduceLE, Int.reduceEq, reduceCtorEq, ↓reduceIte] at g20
    obtain ⟨⟨r23, r24⟩, q21, h⟩ := bnd_some h
    replace h := sel2_some h
    have w22 := e35 x16 s12 (r23, r24) q21
    try simp -implicitDefEqProofs only [go_sem, Nat.reduceLT, Nat.reduceAdd, Nat.reduceSub, Nat.reduceMul, Nat.reduceEqDiff, Nat.reduceBEq, Nat.reduceLeDiff, Int.reduceToNat, Int.reduceLT, Int.reduceLE, Int.reduceEq, reduceCtorEq, ↓reduceIte] at w22
    obtain ⟨g25, h⟩ := ck_some h
    try simp -implicitDefEqProofs only [go_sem, Nat.reduceLT, Nat.reduceAdd, Nat.reduceSub, Nat.reduceMul, Nat.reduceEqDiff, Nat.reduceBEq, Nat.reduceLeDiff, Int.reduceToNat, Int.reduceLT, Int.reduceLE, Int.reduceEq, reduceCtorEq, ↓reduceIte] at g25
    cases h
    simp -implicitDefEqProofs only [go_sem, Nat.reduceLT, Nat.reduceAdd, Nat.reduceSub, Nat.reduceMul, Nat.reduceEqDiff, Nat.reduceBEq, Nat.reduceLeDiff, Int.reduceToNat, Int.reduceLT, Int.reduceLE, Int.reduceEq, reduceCtorEq, ↓reduceIte, E57_1, X57_1, k57_1b, b15, g18, g19, g20, w22, g25, take_of_len_map g25]
theorem e57_1 (s : (Int × Int × List (List Int))) (o : (Int × List (List Int))) (h : loopP (m57_1b) s = some o) : evCL (T.at true) 1 (.loop k57_1b) (E57_1 s).1 (E57_1 s).2 = some (X57_1 o) :=
  loop_walk (E := E57_1) (X := X57_1) (by intro b; (simp only [X57_1]; nofun)) (b57_1) s o h
theorem e57 (a0 : (List (List Int))) (a1 : Int) (r : (Int × List (List Int))) (h : m57 a0 a1 = some r) : evFL T 57 [.sl 0 0 a0.length, .int .i64 a1] [some ⟨.arr, 1, a0.map (encLInt .own)⟩] = some (.int .i64 r.1, [some ⟨.arr, 1, r.2.map (encLInt .own)⟩]) := by
  unfold m57 at h
  rw [evFL_atS fn57 (Nat.le_of_ble_eq_true rfl) rfl (.inl rfl) ⟨rfl, rfl⟩]
  obtain ⟨⟨v28, v29⟩, q26, h⟩ := bnd_some h
  replace h := sel2_some h
  have w27 := e57_1 (a1, 0, a0) (v28, v29) q26
  simp only [E57_1, X57_1] at w27
  try simp -implicitDefEqProofs only [go_sem, Nat.reduceLT, Nat.reduceAdd, Nat.reduceSub, Nat.reduceMul, Nat.reduceEqDiff, Nat.reduceBEq, Nat.reduceLeDiff, Int.reduceToNat, Int.reduceLT, Int.reduceLE, Int.reduceEq, reduceCtorEq, ↓reduceIte] at w27
  cases h
  simp -implicitDefEqProofs only [go_sem, Nat.reduceLT, Nat.reduceAdd, Nat.reduceSub, Nat.reduceMul, Nat.reduceEqDiff, Nat.reduceBEq, Nat.reduceLeDiff, Int.reduceToNat, Int.reduceLT, Int.reduceLE, Int.reduceEq, reduceCtorEq, ↓reduceIte, i57, c57, w27]
-- f23 laws.markAlgebra
theorem calls23 (args : List AV) (S : St) : evCall (T.at true) (evFL T) 23 args S = c3A true true (evFL T 23) (rawAll S [[0, 1], [0]] args) := evCall3_g fns23 rfl (fun h => absurd h.2 (by decide)) args S
attribute [go_sem] calls23
theorem e23 (a0 : Algebra) (a1 : Int) (r : (Int × List (List Int))) (h : m23 a0 a1 = some r) : evFL T 23 [.agg [.int .i64 a0.weights, .sl 0 0 a0.apply.length], .int .i64 a1] [some ⟨.arr, 1, a0.apply.map (encLInt .own)⟩] = some (.int .i64 r.1, [some ⟨.arr, 1, r.2.map (encLInt .own)⟩]) := by
  unfold m23 at h
  rw [evFL_atS fn23 (Nat.le_of_ble_eq_true rfl) rfl (.inl rfl) ⟨rfl, rfl⟩]
  obtain ⟨⟨r3, r4⟩, q1, h⟩ := bnd_some h
  replace h := sel2_some h
  have w2 := e57 a0.apply a1 (r3, r4) q1
  try simp -implicitDefEqProofs only [go_sem, Nat.reduceLT, Nat.reduceAdd, Nat.reduceSub, Nat.reduceMul, Nat.reduceEqDiff, Nat.reduceBEq, Nat.reduceLeDiff, Int.reduceToNat, Int.reduceLT, Int.reduceLE, Int.reduceEq, reduceCtorEq, ↓reduceIte] at w2
  obtain ⟨g5, h⟩ := ck_some h
  try simp -implicitDefEqProofs only [go_sem, Nat.reduceLT, Nat.reduceAdd, Nat.reduceSub, Nat.reduceMul, Nat.reduceEqDiff, Nat.reduceBEq, Nat.reduceLeDiff, Int.reduceToNat, Int.reduceLT, Int.reduceLE, Int.reduceEq, reduceCtorEq, ↓reduceIte] at g5
  cases h
  simp -implicitDefEqProofs only [go_sem, Nat.reduceLT, Nat.reduceAdd, Nat.reduceSub, Nat.reduceMul, Nat.reduceEqDiff, Nat.reduceBEq, Nat.reduceLeDiff, Int.reduceToNat, Int.reduceLT, Int.reduceLE, Int.reduceEq, reduceCtorEq, ↓reduceIte, i23, c23, w2, g5, take_of_len_map g5]
-- f36 laws.heldIntS
theorem call36 (args : List AV) (S : St) : evCall T (evFL T) 36 args S = lendC (evFL T 36) S (lendAll S [[1], [0]] args) := evCall0 fn36 rfl rfl rfl args S
theorem callz36 (args : List AV) (S : St) : evCallFz T (evFL T) 36 args S = lendZ (evFL T 36) S [[0]] (lendAll S [[1], [0]] args) := evCallFz0 fn36 rfl rfl rfl args S
theorem calls36 (args : List AV) (S : St) : evCall (T.at true) (evFL T) 36 args S = lendC (evFL T 36) S (lendAll S [[1], [0]] args) := evCall0 fns36 rfl rfl rfl args S
theorem callsz36 (args : List AV) (S : St) : evCallFz (T.at true) (evFL T) 36 args S = lendZ (evFL T 36) S [[0]] (lendAll S [[1], [0]] args) := evCallFz0 fns36 rfl rfl rfl args S
attribute [go_sem] call36 callz36 calls36 callsz36
noncomputable def X36_1 (a0 : (List Int)) (o : (Int ⊕ Unit)) : Ex × Fr × St :=
  match o with
  | .inl o => (.exit 0, frOf 21 (upd anyF 1 (.int .i64 o)), [])
  | .inr o => (.ret, frOf 21 (upd anyF 4 (.int .i64 (-1))), [])
noncomputable def E36_1 (a0 : (List Int)) (s : (Int × Int)) : Fr × St := (frOf 21 (upd (upd (upd anyF 0 (.ts .imm 1 (a0.map encInt))) 1 (.int .i64 s.1)) 5 (.int .i64 s.2)), [])
theorem b36_1 (a0 : (List Int)) (s : (Int × Int)) (o : Ctl (Int × Int) (Int ⊕ Unit)) (h : m36_1b a0 s = some o) : evCL T 0 k36_1b (E36_1 a0 s).1 (E36_1 a0 s).2 = some (ctlX (E36_1 a0) (X36_1 a0) o) := by
  unfold m36_1b at h
  obtain ⟨s8, s9⟩ := s
  replace h := sel2_some h
  try simp -implicitDefEqProofs only [go_sem, Nat.reduceLT, Nat.reduceAdd, Nat.reduceSub, Nat.reduceMul, Nat.reduceEqDiff, Nat.reduceBEq, Nat.reduceLeDiff, Int.reduceToNat, Int.reduceLT, Int.reduceLE, Int.reduceEq, reduceCtorEq, ↓reduceIte, E36_1, X36_1, k36_1b]
  cases b10 : (ltI s9 (↑a0.length : Int) : Bool)
  · replace h := br_f b10 h
    cases h
    simp -implicitDefEqProofs only [go_sem, Nat.reduceLT, Nat.reduceAdd, Nat.reduceSub, Nat.reduceMul, Nat.reduceEqDiff, Nat.reduceBEq, Nat.reduceLeDiff, Int.reduceToNat, Int.reduceLT, Int.reduceLE, Int.reduceEq, reduceCtorEq, ↓reduceIte, E36_1, X36_1, k36_1b, b10]
  · replace h := br_t b10 h
    obtain ⟨x11, q12, h⟩ := bnd_some h
    obtain ⟨g13, g14, g15⟩ := idx_row encInt q12
    try simp -implicitDefEqProofs only [go_sem, Nat.reduceLT, Nat.reduceAdd, Nat.reduceSub, Nat.reduceMul, Nat.reduceEqDiff, Nat.reduceBEq, Nat.reduceLeDiff, Int.reduceToNat, Int.reduceLT, Int.reduceLE, Int.reduceEq, reduceCtorEq, ↓reduceIte] at g14
    try simp -implicitDefEqProofs only [go_sem, Nat.reduceLT, Nat.reduceAdd, Nat.reduceSub, Nat.reduceMul, Nat.reduceEqDiff, Nat.reduceBEq, Nat.reduceLeDiff, Int.reduceToNat, Int.reduceLT, Int.reduceLE, Int.reduceEq, reduceCtorEq, ↓reduceIte] at g15
    try simp -implicitDefEqProofs only [go_sem, Nat.reduceLT, Nat.reduceAdd, Nat.reduceSub, Nat.reduceMul, Nat.reduceEqDiff, Nat.reduceBEq, Nat.reduceLeDiff, Int.reduceToNat, Int.reduceLT, Int.reduceLE, Int.reduceEq, reduceCtorEq, ↓reduceIte, E36_1, X36_1, k36_1b, b10, g13, g14, g15]
    cases b16 : (eqI x11 s8 : Bool)
    · replace h := br_f b16 h
      cases h
      simp -implicitDefEqProofs only [go_sem, Nat.reduceLT, Nat.reduceAdd, Nat.reduceSub, Nat.reduceMul, Nat.reduceEqDiff, Nat.reduceBEq, Nat.reduceLeDiff, Int.reduceToNat, Int.reduceLT, Int.reduceLE, Int.reduceEq, reduceCtorEq, ↓reduceIte, E36_1, X36_1, k36_1b, b10, g13, g14, g15, b16]
    · replace h := br_t b16 h
      cases h
      simp -implicitDefEqProofs only [go_sem, Nat.reduceLT, Nat.reduceAdd, Nat.reduceSub, Nat.reduceMul, Nat.reduceEqDiff, Nat.reduceBEq, Nat.reduceLeDiff, Int.reduceToNat, Int.reduceLT, Int.reduceLE, Int.reduceEq, reduceCtorEq, ↓reduceIte, E36_1, X36_1, k36_1b, b10, g13, g14, g15, b16]
theorem e36_1 (a0 : (List Int)) (s : (Int × Int)) (o : (Int ⊕ Unit)) (h : loopP (m36_1b a0) s = some o) : evCL T 0 (.loop k36_1b) (E36_1 a0 s).1 (E36_1 a0 s).2 = some (X36_1 a0 o) :=
  loop_walk (E := E36_1 a0) (X := X36_1 a0) (by intro b; rcases b with b | b <;> (simp only [X36_1]; nofun)) (b36_1 a0) s o h
theorem e36 (a0 : (List Int)) (a1 : Int) (r : Int) (h : m36 a0 a1 = some r) : evFL T 36 [.ts .imm 1 (a0.map encInt), .int .i64 a1] [] = some (.int .i64 r, []) := by
  unfold m36 at h
  rw [evFL_at fn36 (Nat.le_of_ble_eq_true rfl) rfl (.inr rfl) ⟨rfl, rfl⟩]
  try simp -implicitDefEqProofs only [go_sem, Nat.reduceLT, Nat.reduceAdd, Nat.reduceSub, Nat.reduceMul, Nat.reduceEqDiff, Nat.reduceBEq, Nat.reduceLeDiff, Int.reduceToNat, Int.reduceLT, Int.reduceLE, Int.reduceEq, reduceCtorEq, ↓reduceIte, i36, c36]
  obtain ⟨o, q17, h⟩ := bnd_some h
  rcases o with v19 | ⟨⟩
  · replace h := selS_l h
    have w18 := e36_1 a0 (a1, 0) (.inl v19) q17
    simp only [E36_1, X36_1] at w18
    try simp -implicitDefEqProofs only [go_sem, Nat.reduceLT, Nat.reduceAdd, Nat.reduceSub, Nat.reduceMul, Nat.reduceEqDiff, Nat.reduceBEq, Nat.reduceLeDiff, Int.reduceToNat, Int.reduceLT, Int.reduceLE, Int.reduceEq, reduceCtorEq, ↓reduceIte] at w18
    cases h
    simp -implicitDefEqProofs only [go_sem, Nat.reduceLT, Nat.reduceAdd, Nat.reduceSub, Nat.reduceMul, Nat.reduceEqDiff, Nat.reduceBEq, Nat.reduceLeDiff, Int.reduceToNat, Int.reduceLT, Int.reduceLE, Int.reduceEq, reduceCtorEq, ↓reduceIte, i36, c36, w18]
  · replace h := selS_r h
    have w18 := e36_1 a0 (a1, 0) (.inr ()) q17
    simp only [E36_1, X36_1] at w18
    try simp -implicitDefEqProofs only [go_sem, Nat.reduceLT, Nat.reduceAdd, Nat.reduceSub, Nat.reduceMul, Nat.reduceEqDiff, Nat.reduceBEq, Nat.reduceLeDiff, Int.reduceToNat, Int.reduceLT, Int.reduceLE, Int.reduceEq, reduceCtorEq, ↓reduceIte] at w18
    cases h
    simp -implicitDefEqProofs only [go_sem, Nat.reduceLT, Nat.reduceAdd, Nat.reduceSub, Nat.reduceMul, Nat.reduceEqDiff, Nat.reduceBEq, Nat.reduceLeDiff, Int.reduceToNat, Int.reduceLT, Int.reduceLE, Int.reduceEq, reduceCtorEq, ↓reduceIte, i36, c36, w18]
-- f58 laws.heldIntSS
theorem call58 (args : List AV) (S : St) : evCall T (evFL T) 58 args S = lendC (evFL T 58) S (lendAll S [[1], [0]] args) := evCall0 fn58 rfl rfl rfl args S
theorem callz58 (args : List AV) (S : St) : evCallFz T (evFL T) 58 args S = lendZ (evFL T 58) S [[0]] (lendAll S [[1], [0]] args) := evCallFz0 fn58 rfl rfl rfl args S
theorem calls58 (args : List AV) (S : St) : evCall (T.at true) (evFL T) 58 args S = lendC (evFL T 58) S (lendAll S [[1], [0]] args) := evCall0 fns58 rfl rfl rfl args S
theorem callsz58 (args : List AV) (S : St) : evCallFz (T.at true) (evFL T) 58 args S = lendZ (evFL T 58) S [[0]] (lendAll S [[1], [0]] args) := evCallFz0 fns58 rfl rfl rfl args S
attribute [go_sem] call58 callz58 calls58 callsz58
noncomputable def X58_1 (a0 : (List (List Int))) (o : (Int ⊕ Unit)) : Ex × Fr × St :=
  match o with
  | .inl o => (.exit 0, frOf 21 (upd anyF 1 (.int .i64 o)), [])
  | .inr o => (.ret, frOf 21 (upd anyF 4 (.int .i64 (-1))), [])
noncomputable def E58_1 (a0 : (List (List Int))) (s : (Int × Int)) : Fr × St := (frOf 21 (upd (upd (upd anyF 0 (.ts .imm 1 (a0.map (encLInt .imm)))) 1 (.int .i64 s.1)) 5 (.int .i64 s.2)), [])
theorem b58_1 (a0 : (List (List Int))) (s : (Int × Int)) (o : Ctl (Int × Int) (Int ⊕ Unit)) (h : m58_1b a0 s = some o) : evCL T 0 k58_1b (E58_1 a0 s).1 (E58_1 a0 s).2 = some (ctlX (E58_1 a0) (X58_1 a0) o) := by
  unfold m58_1b at h
  obtain ⟨s11, s12⟩ := s
  replace h := sel2_some h
  try simp -implicitDefEqProofs only [go_sem, Nat.reduceLT, Nat.reduceAdd, Nat.reduceSub, Nat.reduceMul, Nat.reduceEqDiff, Nat.reduceBEq, Nat.reduceLeDiff, Int.reduceToNat, Int.reduceLT, Int.reduceLE, Int.reduceEq, reduceCtorEq, ↓reduceIte, E58_1, X58_1, k58_1b]
  cases b13 : (ltI s12 (↑a0.length : Int) : Bool)
  · replace h := br_f b13 h
    cases h
    simp -implicitDefEqProofs only [go_sem, Nat.reduceLT, Nat.reduceAdd, Nat.reduceSub, Nat.reduceMul, Nat.reduceEqDiff, Nat.reduceBEq, Nat.reduceLeDiff, Int.reduceToNat, Int.reduceLT, Int.reduceLE, Int.reduceEq, reduceCtorEq, ↓reduceIte, E58_1, X58_1, k58_1b, b13]
  · replace h := br_t b13 h
    obtain ⟨x14, q15, h⟩ := bnd_some h
    obtain ⟨g16, g17, g18⟩ := idx_row (encLInt .imm) q15
    try simp -implicitDefEqProofs only [go_sem, Nat.reduceLT, Nat.reduceAdd, Nat.reduceSub, Nat.reduceMul, Nat.reduceEqDiff, Nat.reduceBEq, Nat.reduceLeDiff, Int.reduceToNat, Int.reduceLT, Int.reduceLE, Int.reduceEq, reduceCtorEq, ↓reduceIte] at g17
    try simp -implicitDefEqProofs only [go_sem, Nat.reduceLT, Nat.reduceAdd, Nat.reduceSub, Nat.reduceMul, Nat.reduceEqDiff, Nat.reduceBEq, Nat.reduceLeDiff, Int.reduceToNat, Int.reduceLT, Int.reduceLE, Int.reduceEq, reduceCtorEq, ↓reduceIte] at g18
    obtain ⟨r21, q19, h⟩ := bnd_some h
    have w20 := e36 x14 s11 r21 q19
    try simp -implicitDefEqProofs only [go_sem, Nat.reduceLT, Nat.reduceAdd, Nat.reduceSub, Nat.reduceMul, Nat.reduceEqDiff, Nat.reduceBEq, Nat.reduceLeDiff, Int.reduceToNat, Int.reduceLT, Int.reduceLE, Int.reduceEq, reduceCtorEq, ↓reduceIte] at w20
    try simp -implicitDefEqProofs only [go_sem, Nat.reduceLT, Nat.reduceAdd, Nat.reduceSub, Nat.reduceMul, Nat.reduceEqDiff, Nat.reduceBEq, Nat.reduceLeDiff, Int.reduceToNat, Int.reduceLT, Int.reduceLE, Int.reduceEq, reduceCtorEq, ↓reduceIte, E58_1, X58_1, k58_1b, b13, g16, g17, g18, w20]
    cases b22 : (ltI r21 0 : Bool)
    · replace h := br_f b22 h
      cases h
      simp -implicitDefEqProofs only [go_sem, Nat.reduceLT, Nat.reduceAdd, Nat.reduceSub, Nat.reduceMul, Nat.reduceEqDiff, Nat.reduceBEq, Nat.reduceLeDiff, Int.reduceToNat, Int.reduceLT, Int.reduceLE, Int.reduceEq, reduceCtorEq, ↓reduceIte, E58_1, X58_1, k58_1b, b13, g16, g17, g18, w20, b22]
    · replace h := br_t b22 h
      cases h
      simp -implicitDefEqProofs only [go_sem, Nat.reduceLT, Nat.reduceAdd, Nat.reduceSub, Nat.reduceMul, Nat.reduceEqDiff, Nat.reduceBEq, Nat.reduceLeDiff, Int.reduceToNat, Int.reduceLT, Int.reduceLE, Int.reduceEq, reduceCtorEq, ↓reduceIte, E58_1, X58_1, k58_1b, b13, g16, g17, g18, w20, b22]
theorem e58_1 (a0 : (List (List Int))) (s : (Int × Int)) (o : (Int ⊕ Unit)) (h : loopP (m58_1b a0) s = some o) : evCL T 0 (.loop k58_1b) (E58_1 a0 s).1 (E58_1 a0 s).2 = some (X58_1 a0 o) :=
  loop_walk (E := E58_1 a0) (X := X58_1 a0) (by intro b; rcases b with b | b <;> (simp only [X58_1]; nofun)) (b58_1 a0) s o h
theorem e58 (a0 : (List (List Int))) (a1 : Int) (r : Int) (h : m58 a0 a1 = some r) : evFL T 58 [.ts .imm 1 (a0.map (encLInt .imm)), .int .i64 a1] [] = some (.int .i64 r, []) := by
  unfold m58 at h
  rw [evFL_at fn58 (Nat.le_of_ble_eq_true rfl) rfl (.inr rfl) ⟨rfl, rfl⟩]
  try simp -implicitDefEqProofs only [go_sem, Nat.reduceLT, Nat.reduceAdd, Nat.reduceSub, Nat.reduceMul, Nat.reduceEqDiff, Nat.reduceBEq, Nat.reduceLeDiff, Int.reduceToNat, Int.reduceLT, Int.reduceLE, Int.reduceEq, reduceCtorEq, ↓reduceIte, i58, c58]
  obtain ⟨o, q23, h⟩ := bnd_some h
  rcases o with v25 | ⟨⟩
  · replace h := selS_l h
    have w24 := e58_1 a0 (a1, 0) (.inl v25) q23
    simp only [E58_1, X58_1] at w24
    try simp -implicitDefEqProofs only [go_sem, Nat.reduceLT, Nat.reduceAdd, Nat.reduceSub, Nat.reduceMul, Nat.reduceEqDiff, Nat.reduceBEq, Nat.reduceLeDiff, Int.reduceToNat, Int.reduceLT, Int.reduceLE, Int.reduceEq, reduceCtorEq, ↓reduceIte] at w24
    cases h
    simp -implicitDefEqProofs only [go_sem, Nat.reduceLT, Nat.reduceAdd, Nat.reduceSub, Nat.reduceMul, Nat.reduceEqDiff, Nat.reduceBEq, Nat.reduceLeDiff, Int.reduceToNat, Int.reduceLT, Int.reduceLE, Int.reduceEq, reduceCtorEq, ↓reduceIte, i58, c58, w24]
  · replace h := selS_r h
    have w24 := e58_1 a0 (a1, 0) (.inr ()) q23
    simp only [E58_1, X58_1] at w24
    try simp -implicitDefEqProofs only [go_sem, Nat.reduceLT, Nat.reduceAdd, Nat.reduceSub, Nat.reduceMul, Nat.reduceEqDiff, Nat.reduceBEq, Nat.reduceLeDiff, Int.reduceToNat, Int.reduceLT, Int.reduceLE, Int.reduceEq, reduceCtorEq, ↓reduceIte] at w24
    cases h
    simp -implicitDefEqProofs only [go_sem, Nat.reduceLT, Nat.reduceAdd, Nat.reduceSub, Nat.reduceMul, Nat.reduceEqDiff, Nat.reduceBEq, Nat.reduceLeDiff, Int.reduceToNat, Int.reduceLT, Int.reduceLE, Int.reduceEq, reduceCtorEq, ↓reduceIte, i58, c58, w24]
-- f24 laws.heldAlgebra
theorem call24 (args : List AV) (S : St) : evCall T (evFL T) 24 args S = lendC (evFL T 24) S (lendAll S [[0, 1], [0]] args) := evCall0 fn24 rfl rfl rfl args S
theorem callz24 (args : List AV) (S : St) : evCallFz T (evFL T) 24 args S = lendZ (evFL T 24) S [[0]] (lendAll S [[0, 1], [0]] args) := evCallFz0 fn24 rfl rfl rfl args S
theorem calls24 (args : List AV) (S : St) : evCall (T.at true) (evFL T) 24 args S = lendC (evFL T 24) S (lendAll S [[0, 1], [0]] args) := evCall0 fns24 rfl rfl rfl args S
theorem callsz24 (args : List AV) (S : St) : evCallFz (T.at true) (evFL T) 24 args S = lendZ (evFL T 24) S [[0]] (lendAll S [[0, 1], [0]] args) := evCallFz0 fns24 rfl rfl rfl args S
attribute [go_sem] call24 callz24 calls24 callsz24
theorem e24 (a0 : Algebra) (a1 : Int) (r : Int) (h : m24 a0 a1 = some r) : evFL T 24 [.agg [.int .i64 a0.weights, .ts .imm 1 (a0.apply.map (encLInt .imm))], .int .i64 a1] [] = some (.int .i64 r, []) := by
  unfold m24 at h
  rw [evFL_at fn24 (Nat.le_of_ble_eq_true rfl) rfl (.inr rfl) ⟨rfl, rfl⟩]
  obtain ⟨r3, q1, h⟩ := bnd_some h
  have w2 := e58 a0.apply a1 r3 q1
  try simp -implicitDefEqProofs only [go_sem, Nat.reduceLT, Nat.reduceAdd, Nat.reduceSub, Nat.reduceMul, Nat.reduceEqDiff, Nat.reduceBEq, Nat.reduceLeDiff, Int.reduceToNat, Int.reduceLT, Int.reduceLE, Int.reduceEq, reduceCtorEq, ↓reduceIte] at w2
  try simp -implicitDefEqProofs only [go_sem, Nat.reduceLT, Nat.reduceAdd, Nat.reduceSub, Nat.reduceMul, Nat.reduceEqDiff, Nat.reduceBEq, Nat.reduceLeDiff, Int.reduceToNat, Int.reduceLT, Int.reduceLE, Int.reduceEq, reduceCtorEq, ↓reduceIte, i24, c24, w2]
  cases b4 : (ltI r3 0 : Bool)
  · replace h := br_f b4 h
    cases h
    simp -implicitDefEqProofs only [go_sem, Nat.reduceLT, Nat.reduceAdd, Nat.reduceSub, Nat.reduceMul, Nat.reduceEqDiff, Nat.reduceBEq, Nat.reduceLeDiff, Int.reduceToNat, Int.reduceLT, Int.reduceLE, Int.reduceEq, reduceCtorEq, ↓reduceIte, i24, c24, w2, b4]
  · replace h := br_t b4 h
    cases h
    simp -implicitDefEqProofs only [go_sem, Nat.reduceLT, Nat.reduceAdd, Nat.reduceSub, Nat.reduceMul, Nat.reduceEqDiff, Nat.reduceBEq, Nat.reduceLeDiff, Int.reduceToNat, Int.reduceLT, Int.reduceLE, Int.reduceEq, reduceCtorEq, ↓reduceIte, i24, c24, w2, b4]
-- f6 laws.FnExactLexOf
noncomputable def X6_1 (r18 : Bool) (r26 : Bool) (a0 : Algebra) (a1 : Algebra) (r17 : Algebra) (r11 : Algebra) (r14 : Algebra) (r25 : Algebra) (o : Bool) : Ex × Fr × St :=
  (.normal, frOf 119 (upd (upd (upd (upd (upd (upd (upd (upd (upd anyF 2 (.ptr 0 0 0)) 3 (.ptr 1 0 0)) 6 (.ptr 2 0 0)) 7 (.bool r18)) 8 (.ptr 4 0 0)) 9 (.ptr 6 0 0)) 10 (.ptr 8 0 0)) 11 (.bool r26)) 53 (.bool o)), [some ⟨.box, 2, [[.int .i64 a0.weights, .ts .imm 1 (a0.apply.map (encLInt .imm))]]⟩, some ⟨.box, 2, [[.int .i64 a1.weights, .ts .imm 1 (a1.apply.map (encLInt .imm))]]⟩, some ⟨.box, 2, [[.int .i64 r17.weights, .sl 3 0 r17.apply.length]]⟩, some ⟨.arr, 1, r17.apply.map (encLInt .own)⟩, some ⟨.box, 2, [[.int .i64 r11.weights, .sl 5 0 r11.apply.length]]⟩, some ⟨.arr, 1, r11.apply.map (encLInt .own)⟩, some ⟨.box, 2, [[.int .i64 r14.weights, .sl 7 0 r14.apply.length]]⟩, some ⟨.arr, 1, r14.apply.map (encLInt .own)⟩, some ⟨.box, 2, [[.int .i64 r25.weights, .sl 9 0 r25.apply.length]]⟩, some ⟨.arr, 1, r25.apply.map (encLInt .own)⟩])
theorem e6_1 (r18 : Bool) (r26 : Bool) (a0 : Algebra) (a1 : Algebra) (r17 : Algebra) (r11 : Algebra) (r14 : Algebra) (r25 : Algebra) (o : Bool) (h : m6_1 r18 r26 r17 r25 = some o) : evCL (T.at true) 0 k6_1 (frOf 119 (upd (upd (upd (upd (upd (upd (upd (upd anyF 2 (.ptr 0 0 0)) 3 (.ptr 1 0 0)) 6 (.ptr 2 0 0)) 7 (.bool r18)) 8 (.ptr 4 0 0)) 9 (.ptr 6 0 0)) 10 (.ptr 8 0 0)) 11 (.bool r26))) [some ⟨.box, 2, [[.int .i64 a0.weights, .ts .imm 1 (a0.apply.map (encLInt .imm))]]⟩, some ⟨.box, 2, [[.int .i64 a1.weights, .ts .imm 1 (a1.apply.map (encLInt .imm))]]⟩, some ⟨.box, 2, [[.int .i64 r17.weights, .sl 3 0 r17.apply.length]]⟩, some ⟨.arr, 1, r17.apply.map (encLInt .own)⟩, some ⟨.box, 2, [[.int .i64 r11.weights, .sl 5 0 r11.apply.length]]⟩, some ⟨.arr, 1, r11.apply.map (encLInt .own)⟩, some ⟨.box, 2, [[.int .i64 r14.weights, .sl 7 0 r14.apply.length]]⟩, some ⟨.arr, 1, r14.apply.map (encLInt .own)⟩, some ⟨.box, 2, [[.int .i64 r25.weights, .sl 9 0 r25.apply.length]]⟩, some ⟨.arr, 1, r25.apply.map (encLInt .own)⟩] = some (X6_1 r18 r26 a0 a1 r17 r11 r14 r25 o) := by
  unfold m6_1 at h
  obtain ⟨r29, q27, h⟩ := bnd_some h
  have w28 := e16 r25 r17 r29 q27
  try simp -implicitDefEqProofs only [go_sem, Nat.reduceLT, Nat.reduceAdd, Nat.reduceSub, Nat.reduceMul, Nat.reduceEqDiff, Nat.reduceBEq, Nat.reduceLeDiff, Int.reduceToNat, Int.reduceLT, Int.reduceLE, Int.reduceEq, reduceCtorEq, ↓reduceIte] at w28
  try simp -implicitDefEqProofs only [go_sem, Nat.reduceLT, Nat.reduceAdd, Nat.reduceSub, Nat.reduceMul, Nat.reduceEqDiff, Nat.reduceBEq, Nat.reduceLeDiff, Int.reduceToNat, Int.reduceLT, Int.reduceLE, Int.reduceEq, reduceCtorEq, ↓reduceIte, X6_1, k6_1, w28]
  cases b30 : (r29 : Bool)
  · replace h := br_f b30 h
    cases h
    simp -implicitDefEqProofs only [go_sem, Nat.reduceLT, Nat.reduceAdd, Nat.reduceSub, Nat.reduceMul, Nat.reduceEqDiff, Nat.reduceBEq, Nat.reduceLeDiff, Int.reduceToNat, Int.reduceLT, Int.reduceLE, Int.reduceEq, reduceCtorEq, ↓reduceIte, X6_1, k6_1, w28, b30]
  · replace h := br_t b30 h
    cases h
    simp -implicitDefEqProofs only [go_sem, Nat.reduceLT, Nat.reduceAdd, Nat.reduceSub, Nat.reduceMul, Nat.reduceEqDiff, Nat.reduceBEq, Nat.reduceLeDiff, Int.reduceToNat, Int.reduceLT, Int.reduceLE, Int.reduceEq, reduceCtorEq, ↓reduceIte, X6_1, k6_1, w28, b30]
noncomputable def X6_2 (r18 : Bool) (r26 : Bool) (r54 : Int) (a0 : Algebra) (a1 : Algebra) (r17 : Algebra) (r25 : Algebra) (o : Bool) : Ex × Fr × St :=
  (.normal, frOf 119 (upd (upd (upd (upd (upd (upd anyF 2 (.ptr 0 0 0)) 3 (.ptr 1 0 0)) 6 (.ptr 2 0 0)) 7 (.bool r18)) 10 (.ptr 4 0 0)) 82 (.bool o)), [some ⟨.box, 2, [[.int .i64 a0.weights, .ts .imm 1 (a0.apply.map (encLInt .imm))]]⟩, some ⟨.box, 2, [[.int .i64 a1.weights, .ts .imm 1 (a1.apply.map (encLInt .imm))]]⟩, some ⟨.box, 2, [[.int .i64 r17.weights, .sl 3 0 r17.apply.length]]⟩, some ⟨.arr, 1, r17.apply.map (encLInt .own)⟩, some ⟨.box, 2, [[.int .i64 r25.weights, .sl 5 0 r25.apply.length]]⟩, some ⟨.arr, 1, r25.apply.map (encLInt .own)⟩])
theorem e6_2 (r18 : Bool) (r26 : Bool) (r54 : Int) (a0 : Algebra) (a1 : Algebra) (r17 : Algebra) (r25 : Algebra) (o : Bool) (h : m6_2 r18 r26 r54 r17 r25 = some o) : evCL (T.at true) 0 k6_2 (frOf 119 (upd (upd (upd (upd (upd (upd (upd anyF 2 (.ptr 0 0 0)) 3 (.ptr 1 0 0)) 6 (.ptr 2 0 0)) 7 (.bool r18)) 10 (.ptr 4 0 0)) 11 (.bool r26)) 12 (.int .i64 r54))) [some ⟨.box, 2, [[.int .i64 a0.weights, .ts .imm 1 (a0.apply.map (encLInt .imm))]]⟩, some ⟨.box, 2, [[.int .i64 a1.weights, .ts .imm 1 (a1.apply.map (encLInt .imm))]]⟩, some ⟨.box, 2, [[.int .i64 r17.weights, .sl 3 0 r17.apply.length]]⟩, some ⟨.arr, 1, r17.apply.map (encLInt .own)⟩, some ⟨.box, 2, [[.int .i64 r25.weights, .sl 5 0 r25.apply.length]]⟩, some ⟨.arr, 1, r25.apply.map (encLInt .own)⟩] = some (X6_2 r18 r26 r54 a0 a1 r17 r25 o) := by
  unfold m6_2 at h
  try simp -implicitDefEqProofs only [go_sem, Nat.reduceLT, Nat.reduceAdd, Nat.reduceSub, Nat.reduceMul, Nat.reduceEqDiff, Nat.reduceBEq, Nat.reduceLeDiff, Int.reduceToNat, Int.reduceLT, Int.reduceLE, Int.reduceEq, reduceCtorEq, ↓reduceIte, X6_2, k6_2]
  cases b57 : (ltI r54 0 : Bool)
  · replace h := br_f b57 h
    obtain ⟨r60, q58, h⟩ := bnd_some h
    have w59 := e16 r25 r17 r60 q58
    try simp -implicitDefEqProofs only [go_sem, Nat.reduceLT, Nat.reduceAdd, Nat.reduceSub, Nat.reduceMul, Nat.reduceEqDiff, Nat.reduceBEq, Nat.reduceLeDiff, Int.reduceToNat, Int.reduceLT, Int.reduceLE, Int.reduceEq, reduceCtorEq, ↓reduceIte] at w59
    try simp -implicitDefEqProofs only [go_sem, Nat.reduceLT, Nat.reduceAdd, Nat.reduceSub, Nat.reduceMul, Nat.reduceEqDiff, Nat.reduceBEq, Nat.reduceLeDiff, Int.reduceToNat, Int.reduceLT, Int.reduceLE, Int.reduceEq, reduceCtorEq, ↓reduceIte, X6_2, k6_2, b57, w59]
    cases b61 : (r60 : Bool)
    · replace h := br_f b61 h
      cases h
      simp -implicitDefEqProofs only [go_sem, Nat.reduceLT, Nat.reduceAdd, Nat.reduceSub, Nat.reduceMul, Nat.reduceEqDiff, Nat.reduceBEq, Nat.reduceLeDiff, Int.reduceToNat, Int.reduceLT, Int.reduceLE, Int.reduceEq, reduceCtorEq, ↓reduceIte, X6_2, k6_2, b57, w59, b61]
    · replace h := br_t b61 h
      cases h
      simp -implicitDefEqProofs only [go_sem, Nat.reduceLT, Nat.reduceAdd, Nat.reduceSub, Nat.reduceMul, Nat.reduceEqDiff, Nat.reduceBEq, Nat.reduceLeDiff, Int.reduceToNat, Int.reduceLT, Int.reduceLE, Int.reduceEq, reduceCtorEq, ↓reduceIte, X6_2, k6_2, b57, w59, b61]
  · replace h := br_t b57 h
    cases h
    simp -implicitDefEqProofs only [go_sem, Nat.reduceLT, Nat.reduceAdd, Nat.reduceSub, Nat.reduceMul, Nat.reduceEqDiff, Nat.reduceBEq, Nat.reduceLeDiff, Int.reduceToNat, Int.reduceLT, Int.reduceLE, Int.reduceEq, reduceCtorEq, ↓reduceIte, X6_2, k6_2, b57]
noncomputable def X6_3 (r18 : Bool) (r68 : Int) (r26 : Bool) (r17 : Algebra) (r25 : Algebra) (r69 : List (List Int)) (o : Bool) : Ex × Fr × St :=
  (.normal, frOf 119 (upd (upd (upd anyF 10 (.ptr 0 0 0)) 13 (.int .i64 r68)) 110 (.bool o)), [some ⟨.box, 2, [[.int .i64 r25.weights, .sl 1 0 r69.length]]⟩, some ⟨.arr, 1, r69.map (encLInt .own)⟩])
theorem e6_3 (r18 : Bool) (r68 : Int) (r26 : Bool) (r17 : Algebra) (r25 : Algebra) (r69 : List (List Int)) (o : Bool) (h : m6_3 r18 r26 r17 r25 = some o) : evCL (T.at true) 0 k6_3 (frOf 119 (upd (upd (upd (upd (upd (upd anyF 6 (.ptr 0 0 0)) 7 (.bool r18)) 10 (.ptr 2 0 0)) 13 (.int .i64 r68)) 15 (.ptr 4 0 0)) 16 (.bool r26))) [some ⟨.box, 2, [[.int .i64 r17.weights, .sl 1 0 r17.apply.length]]⟩, some ⟨.arr, 1, r17.apply.map (encLInt .own)⟩, some ⟨.box, 2, [[.int .i64 r25.weights, .sl 3 0 r69.length]]⟩, some ⟨.arr, 1, r69.map (encLInt .own)⟩, some ⟨.box, 2, [[.int .i64 r25.weights, .sl 5 0 r25.apply.length]]⟩, some ⟨.arr, 1, r25.apply.map (encLInt .own)⟩] = some (X6_3 r18 r68 r26 r17 r25 r69 o) := by
  unfold m6_3 at h
  obtain ⟨r84, q82, h⟩ := bnd_some h
  have w83 := e16 r25 r17 r84 q82
  try simp -implicitDefEqProofs only [go_sem, Nat.reduceLT, Nat.reduceAdd, Nat.reduceSub, Nat.reduceMul, Nat.reduceEqDiff, Nat.reduceBEq, Nat.reduceLeDiff, Int.reduceToNat, Int.reduceLT, Int.reduceLE, Int.reduceEq, reduceCtorEq, ↓reduceIte] at w83
  try simp -implicitDefEqProofs only [go_sem, Nat.reduceLT, Nat.reduceAdd, Nat.reduceSub, Nat.reduceMul, Nat.reduceEqDiff, Nat.reduceBEq, Nat.reduceLeDiff, Int.reduceToNat, Int.reduceLT, Int.reduceLE, Int.reduceEq, reduceCtorEq, ↓reduceIte, X6_3, k6_3, w83]
  cases b85 : (r84 : Bool)
  · replace h := br_f b85 h
    cases h
    simp -implicitDefEqProofs only [go_sem, Nat.reduceLT, Nat.reduceAdd, Nat.reduceSub, Nat.reduceMul, Nat.reduceEqDiff, Nat.reduceBEq, Nat.reduceLeDiff, Int.reduceToNat, Int.reduceLT, Int.reduceLE, Int.reduceEq, reduceCtorEq, ↓reduceIte, X6_3, k6_3, w83, b85]
  · replace h := br_t b85 h
    cases h
    simp -implicitDefEqProofs only [go_sem, Nat.reduceLT, Nat.reduceAdd, Nat.reduceSub, Nat.reduceMul, Nat.reduceEqDiff, Nat.reduceBEq, Nat.reduceLeDiff, Int.reduceToNat, Int.reduceLT, Int.reduceLE, Int.reduceEq, reduceCtorEq, ↓reduceIte, X6_3, k6_3, w83, b85]
theorem e6 (a0 : Algebra) (a1 : Algebra) (r : Bool) (h : m6 a0 a1 = some r) : evFL T 6 [.agg [.int .i64 a0.weights, .ts .imm 1 (a0.apply.map (encLInt .imm))], .agg [.int .i64 a1.weights, .ts .imm 1 (a1.apply.map (encLInt .imm))]] [] = some (.bool r, []) := by
  unfold m6 at h
  rw [evFL_atS fn6 (Nat.le_of_ble_eq_true rfl) rfl (.inr rfl) ⟨rfl, rfl⟩]
  obtain ⟨r3, q1, h⟩ := bnd_some h
  have w2 := e12 a0 1048576 r3 q1
  try simp -implicitDefEqProofs only [go_sem, Nat.reduceLT, Nat.reduceAdd, Nat.reduceSub, Nat.reduceMul, Nat.reduceEqDiff, Nat.reduceBEq, Nat.reduceLeDiff, Int.reduceToNat, Int.reduceLT, Int.reduceLE, Int.reduceEq, reduceCtorEq, ↓reduceIte] at w2
  try simp -implicitDefEqProofs only [go_sem, Nat.reduceLT, Nat.reduceAdd, Nat.reduceSub, Nat.reduceMul, Nat.reduceEqDiff, Nat.reduceBEq, Nat.reduceLeDiff, Int.reduceToNat, Int.reduceLT, Int.reduceLE, Int.reduceEq, reduceCtorEq, ↓reduceIte, i6, c6, w2]
  cases b4 : (ltI r3 0 : Bool)
  · replace h := br_f b4 h
    obtain ⟨r7, q5, h⟩ := bnd_some h
    have w6 := e12 a1 r3 r7 q5
    try simp -implicitDefEqProofs only [go_sem, Nat.reduceLT, Nat.reduceAdd, Nat.reduceSub, Nat.reduceMul, Nat.reduceEqDiff, Nat.reduceBEq, Nat.reduceLeDiff, Int.reduceToNat, Int.reduceLT, Int.reduceLE, Int.reduceEq, reduceCtorEq, ↓reduceIte] at w6
    try simp -implicitDefEqProofs only [go_sem, Nat.reduceLT, Nat.reduceAdd, Nat.reduceSub, Nat.reduceMul, Nat.reduceEqDiff, Nat.reduceBEq, Nat.reduceLeDiff, Int.reduceToNat, Int.reduceLT, Int.reduceLE, Int.reduceEq, reduceCtorEq, ↓reduceIte, i6, c6, w2, b4, w6]
    cases b8 : (ltI r7 0 : Bool)
    · replace h := br_f b8 h
      obtain ⟨r11, q9, h⟩ := bnd_some h
      have w10 := e14 a0 r11 q9
      try simp -implicitDefEqProofs only [go_sem, Nat.reduceLT, Nat.reduceAdd, Nat.reduceSub, Nat.reduceMul, Nat.reduceEqDiff, Nat.reduceBEq, Nat.reduceLeDiff, Int.reduceToNat, Int.reduceLT, Int.reduceLE, Int.reduceEq, reduceCtorEq, ↓reduceIte] at w10
      obtain ⟨r14, q12, h⟩ := bnd_some h
      have w13 := e14 a1 r14 q12
      try simp -implicitDefEqProofs only [go_sem, Nat.reduceLT, Nat.reduceAdd, Nat.reduceSub, Nat.reduceMul, Nat.reduceEqDiff, Nat.reduceBEq, Nat.reduceLeDiff, Int.reduceToNat, Int.reduceLT, Int.reduceLE, Int.reduceEq, reduceCtorEq, ↓reduceIte] at w13
      obtain ⟨⟨r17, r18⟩, q15, h⟩ := bnd_some h
      replace h := sel2_some h
      have w16 := e21 r11 r14 (r17, r18) q15
      try simp -implicitDefEqProofs only [go_sem, Nat.reduceLT, Nat.reduceAdd, Nat.reduceSub, Nat.reduceMul, Nat.reduceEqDiff, Nat.reduceBEq, Nat.reduceLeDiff, Int.reduceToNat, Int.reduceLT, Int.reduceLE, Int.reduceEq, reduceCtorEq, ↓reduceIte] at w16
      obtain ⟨⟨r25, r26⟩, q23, h⟩ := bnd_some h
      replace h := sel2_some h
      have w24 := e22 r11 r14 (r25, r26) q23
      try simp -implicitDefEqProofs only [go_sem, Nat.reduceLT, Nat.reduceAdd, Nat.reduceSub, Nat.reduceMul, Nat.reduceEqDiff, Nat.reduceBEq, Nat.reduceLeDiff, Int.reduceToNat, Int.reduceLT, Int.reduceLE, Int.reduceEq, reduceCtorEq, ↓reduceIte] at w24
      obtain ⟨v33, q31, h⟩ := bnd_some h
      have w32 := e6_1 r18 r26 a0 a1 r17 r11 r14 r25 v33 q31
      simp only [X6_1] at w32
      try simp -implicitDefEqProofs only [go_sem, Nat.reduceLT, Nat.reduceAdd, Nat.reduceSub, Nat.reduceMul, Nat.reduceEqDiff, Nat.reduceBEq, Nat.reduceLeDiff, Int.reduceToNat, Int.reduceLT, Int.reduceLE, Int.reduceEq, reduceCtorEq, ↓reduceIte] at w32
      try simp -implicitDefEqProofs only [go_sem, Nat.reduceLT, Nat.reduceAdd, Nat.reduceSub, Nat.reduceMul, Nat.reduceEqDiff, Nat.reduceBEq, Nat.reduceLeDiff, Int.reduceToNat, Int.reduceLT, Int.reduceLE, Int.reduceEq, reduceCtorEq, ↓reduceIte, i6, c6, w2, b4, w6, b8, w10, w13, w16, w24, w32]
      cases b34 : (v33 : Bool)
      · replace h := br_f b34 h
        obtain ⟨r39, q37, h⟩ := bnd_some h
        have w38 := e16 r11 r11 r39 q37
        try simp -implicitDefEqProofs only [go_sem, Nat.reduceLT, Nat.reduceAdd, Nat.reduceSub, Nat.reduceMul, Nat.reduceEqDiff, Nat.reduceBEq, Nat.reduceLeDiff, Int.reduceToNat, Int.reduceLT, Int.reduceLE, Int.reduceEq, reduceCtorEq, ↓reduceIte] at w38
        try simp -implicitDefEqProofs only [go_sem, Nat.reduceLT, Nat.reduceAdd, Nat.reduceSub, Nat.reduceMul, Nat.reduceEqDiff, Nat.reduceBEq, Nat.reduceLeDiff, Int.reduceToNat, Int.reduceLT, Int.reduceLE, Int.reduceEq, reduceCtorEq, ↓reduceIte, i6, c6, w2, b4, w6, b8, w10, w13, w16, w24, w32, b34, w38]
        cases b40 : (r39 : Bool)
        · replace h := br_f b40 h
          cases h
          simp -implicitDefEqProofs only [go_sem, Nat.reduceLT, Nat.reduceAdd, Nat.reduceSub, Nat.reduceMul, Nat.reduceEqDiff, Nat.reduceBEq, Nat.reduceLeDiff, Int.reduceToNat, Int.reduceLT, Int.reduceLE, Int.reduceEq, reduceCtorEq, ↓reduceIte, i6, c6, w2, b4, w6, b8, w10, w13, w16, w24, w32, b34, w38, b40]
        · replace h := br_t b40 h
          obtain ⟨r45, q43, h⟩ := bnd_some h
          have w44 := e16 r14 r14 r45 q43
          try simp -implicitDefEqProofs only [go_sem, Nat.reduceLT, Nat.reduceAdd, Nat.reduceSub, Nat.reduceMul, Nat.reduceEqDiff, Nat.reduceBEq, Nat.reduceLeDiff, Int.reduceToNat, Int.reduceLT, Int.reduceLE, Int.reduceEq, reduceCtorEq, ↓reduceIte] at w44
          try simp -implicitDefEqProofs only [go_sem, Nat.reduceLT, Nat.reduceAdd, Nat.reduceSub, Nat.reduceMul, Nat.reduceEqDiff, Nat.reduceBEq, Nat.reduceLeDiff, Int.reduceToNat, Int.reduceLT, Int.reduceLE, Int.reduceEq, reduceCtorEq, ↓reduceIte, i6, c6, w2, b4, w6, b8, w10, w13, w16, w24, w32, b34, w38, b40, w44]
          cases b46 : (r45 : Bool)
          · replace h := br_f b46 h
            cases h
            simp -implicitDefEqProofs only [go_sem, Nat.reduceLT, Nat.reduceAdd, Nat.reduceSub, Nat.reduceMul, Nat.reduceEqDiff, Nat.reduceBEq, Nat.reduceLeDiff, Int.reduceToNat, Int.reduceLT, Int.reduceLE, Int.reduceEq, reduceCtorEq, ↓reduceIte, i6, c6, w2, b4, w6, b8, w10, w13, w16, w24, w32, b34, w38, b40, w44, b46]
          · replace h := br_t b46 h
            obtain ⟨⟨r49, r50⟩, q47, h⟩ := bnd_some h
            replace h := sel2_some h
            have w48 := e23 r11 1 (r49, r50) q47
            try simp -implicitDefEqProofs only [go_sem, Nat.reduceLT, Nat.reduceAdd, Nat.reduceSub, Nat.reduceMul, Nat.reduceEqDiff, Nat.reduceBEq, Nat.reduceLeDiff, Int.reduceToNat, Int.reduceLT, Int.reduceLE, Int.reduceEq, reduceCtorEq, ↓reduceIte] at w48
            obtain ⟨g51, h⟩ := ck_some h
            try simp -implicitDefEqProofs only [go_sem, Nat.reduceLT, Nat.reduceAdd, Nat.reduceSub, Nat.reduceMul, Nat.reduceEqDiff, Nat.reduceBEq, Nat.reduceLeDiff, Int.reduceToNat, Int.reduceLT, Int.reduceLE, Int.reduceEq, reduceCtorEq, ↓reduceIte] at g51
            obtain ⟨⟨r54, r55⟩, q52, h⟩ := bnd_some h
            replace h := sel2_some h
            have w53 := e23 r14 r49 (r54, r55) q52
            try simp -implicitDefEqProofs only [go_sem, Nat.reduceLT, Nat.reduceAdd, Nat.reduceSub, Nat.reduceMul, Nat.reduceEqDiff, Nat.reduceBEq, Nat.reduceLeDiff, Int.reduceToNat, Int.reduceLT, Int.reduceLE, Int.reduceEq, reduceCtorEq, ↓reduceIte, g51] at w53
            obtain ⟨g56, h⟩ := ck_some h
            try simp -implicitDefEqProofs only [go_sem, Nat.reduceLT, Nat.reduceAdd, Nat.reduceSub, Nat.reduceMul, Nat.reduceEqDiff, Nat.reduceBEq, Nat.reduceLeDiff, Int.reduceToNat, Int.reduceLT, Int.reduceLE, Int.reduceEq, reduceCtorEq, ↓reduceIte] at g56
            obtain ⟨v64, q62, h⟩ := bnd_some h
            have w63 := e6_2 r18 r26 r54 a0 a1 r17 r25 v64 q62
            simp only [X6_2] at w63
            try simp -implicitDefEqProofs only [go_sem, Nat.reduceLT, Nat.reduceAdd, Nat.reduceSub, Nat.reduceMul, Nat.reduceEqDiff, Nat.reduceBEq, Nat.reduceLeDiff, Int.reduceToNat, Int.reduceLT, Int.reduceLE, Int.reduceEq, reduceCtorEq, ↓reduceIte, g51, g56] at w63
            try simp -implicitDefEqProofs only [go_sem, Nat.reduceLT, Nat.reduceAdd, Nat.reduceSub, Nat.reduceMul, Nat.reduceEqDiff, Nat.reduceBEq, Nat.reduceLeDiff, Int.reduceToNat, Int.reduceLT, Int.reduceLE, Int.reduceEq, reduceCtorEq, ↓reduceIte, i6, c6, w2, b4, w6, b8, w10, w13, w16, w24, w32, b34, w38, b40, w44, b46, w48, g51, take_of_len_map g51, w53, g56, take_of_len_map g56, w63]
            cases b65 : (v64 : Bool)
            · replace h := br_f b65 h
              obtain ⟨⟨r68, r69⟩, q66, h⟩ := bnd_some h
              replace h := sel2_some h
              have w67 := e23 r25 1 (r68, r69) q66
              try simp -implicitDefEqProofs only [go_sem, Nat.reduceLT, Nat.reduceAdd, Nat.reduceSub, Nat.reduceMul, Nat.reduceEqDiff, Nat.reduceBEq, Nat.reduceLeDiff, Int.reduceToNat, Int.reduceLT, Int.reduceLE, Int.reduceEq, reduceCtorEq, ↓reduceIte, g51, g56] at w67
              obtain ⟨g70, h⟩ := ck_some h
              try simp -implicitDefEqProofs only [go_sem, Nat.reduceLT, Nat.reduceAdd, Nat.reduceSub, Nat.reduceMul, Nat.reduceEqDiff, Nat.reduceBEq, Nat.reduceLeDiff, Int.reduceToNat, Int.reduceLT, Int.reduceLE, Int.reduceEq, reduceCtorEq, ↓reduceIte] at g70
              obtain ⟨r73, q71, h⟩ := bnd_some h
              have w72 := e24 (⟨r25.weights, r69⟩ : Algebra) 1 r73 q71
              try simp -implicitDefEqProofs only [go_sem, Nat.reduceLT, Nat.reduceAdd, Nat.reduceSub, Nat.reduceMul, Nat.reduceEqDiff, Nat.reduceBEq, Nat.reduceLeDiff, Int.reduceToNat, Int.reduceLT, Int.reduceLE, Int.reduceEq, reduceCtorEq, ↓reduceIte, g51, g56, g70] at w72
              try simp -implicitDefEqProofs only [go_sem, Nat.reduceLT, Nat.reduceAdd, Nat.reduceSub, Nat.reduceMul, Nat.reduceEqDiff, Nat.reduceBEq, Nat.reduceLeDiff, Int.reduceToNat, Int.reduceLT, Int.reduceLE, Int.reduceEq, reduceCtorEq, ↓reduceIte, i6, c6, w2, b4, w6, b8, w10, w13, w16, w24, w32, b34, w38, b40, w44, b46, w48, g51, take_of_len_map g51, w53, g56, take_of_len_map g56, w63, b65, w67, g70, take_of_len_map g70, w72]
              cases b74 : (ltI r73 0 : Bool)
              · replace h := br_f b74 h
                try simp -implicitDefEqProofs only [go_sem, Nat.reduceLT, Nat.reduceAdd, Nat.reduceSub, Nat.reduceMul, Nat.reduceEqDiff, Nat.reduceBEq, Nat.reduceLeDiff, Int.reduceToNat, Int.reduceLT, Int.reduceLE, Int.reduceEq, reduceCtorEq, ↓reduceIte, i6, c6, w2, b4, w6, b8, w10, w13, w16, w24, w32, b34, w38, b40, w44, b46, w48, g51, take_of_len_map g51, w53, g56, take_of_len_map g56, w63, b65, w67, g70, take_of_len_map g70, w72, b74]
                cases b75 : (eqI r73 r68 : Bool)
                · replace h := br_f b75 h
                  cases h
                  simp -implicitDefEqProofs only [go_sem, Nat.reduceLT, Nat.reduceAdd, Nat.reduceSub, Nat.reduceMul, Nat.reduceEqDiff, Nat.reduceBEq, Nat.reduceLeDiff, Int.reduceToNat, Int.reduceLT, Int.reduceLE, Int.reduceEq, reduceCtorEq, ↓reduceIte, i6, c6, w2, b4, w6, b8, w10, w13, w16, w24, w32, b34, w38, b40, w44, b46, w48, g51, take_of_len_map g51, w53, g56, take_of_len_map g56, w63, b65, w67, g70, take_of_len_map g70, w72, b74, b75]
                · replace h := br_t b75 h
                  obtain ⟨v88, q86, h⟩ := bnd_some h
                  have w87 := e6_3 r18 r68 r26 r17 r25 r69 v88 q86
                  simp only [X6_3] at w87
                  try simp -implicitDefEqProofs only [go_sem, Nat.reduceLT, Nat.reduceAdd, Nat.reduceSub, Nat.reduceMul, Nat.reduceEqDiff, Nat.reduceBEq, Nat.reduceLeDiff, Int.reduceToNat, Int.reduceLT, Int.reduceLE, Int.reduceEq, reduceCtorEq, ↓reduceIte, g51, g56, g70] at w87
                  try simp -implicitDefEqProofs only [go_sem, Nat.reduceLT, Nat.reduceAdd, Nat.reduceSub, Nat.reduceMul, Nat.reduceEqDiff, Nat.reduceBEq, Nat.reduceLeDiff, Int.reduceToNat, Int.reduceLT, Int.reduceLE, Int.reduceEq, reduceCtorEq, ↓reduceIte, i6, c6, w2, b4, w6, b8, w10, w13, w16, w24, w32, b34, w38, b40, w44, b46, w48, g51, take_of_len_map g51, w53, g56, take_of_len_map g56, w63, b65, w67, g70, take_of_len_map g70, w72, b74, b75, w87]
                  cases b89 : (v88 : Bool)
                  · replace h := br_f b89 h
                    cases h
                    simp -implicitDefEqProofs only [go_sem, Nat.reduceLT, Nat.reduceAdd, Nat.reduceSub, Nat.reduceMul, Nat.reduceEqDiff, Nat.reduceBEq, Nat.reduceLeDiff, Int.reduceToNat, Int.reduceLT, Int.reduceLE, Int.reduceEq, reduceCtorEq, ↓reduceIte, i6, c6, w2, b4, w6, b8, w10, w13, w16, w24, w32, b34, w38, b40, w44, b46, w48, g51, take_of_len_map g51, w53, g56, take_of_len_map g56, w63, b65, w67, g70, take_of_len_map g70, w72, b74, b75, w87, b89]
                  · replace h := br_t b89 h
                    cases h
                    simp -implicitDefEqProofs only [go_sem, Nat.reduceLT, Nat.reduceAdd, Nat.reduceSub, Nat.reduceMul, Nat.reduceEqDiff, Nat.reduceBEq, Nat.reduceLeDiff, Int.reduceToNat, Int.reduceLT, Int.reduceLE, Int.reduceEq, reduceCtorEq, ↓reduceIte, i6, c6, w2, b4, w6, b8, w10, w13, w16, w24, w32, b34, w38, b40, w44, b46, w48, g51, take_of_len_map g51, w53, g56, take_of_len_map g56, w63, b65, w67, g70, take_of_len_map g70, w72, b74, b75, w87, b89]
              · replace h := br_t b74 h
                cases h
                simp -implicitDefEqProofs only [go_sem, Nat.reduceLT, Nat.reduceAdd, Nat.reduceSub, Nat.reduceMul, Nat.reduceEqDiff, Nat.reduceBEq, Nat.reduceLeDiff, Int.reduceToNat, Int.reduceLT, Int.reduceLE, Int.reduceEq, reduceCtorEq, ↓reduceIte, i6, c6, w2, b4, w6, b8, w10, w13, w16, w24, w32, b34, w38, b40, w44, b46, w48, g51, take_of_len_map g51, w53, g56, take_of_len_map g56, w63, b65, w67, g70, take_of_len_map g70, w72, b74]
            · replace h := br_t b65 h
              cases h
              simp -implicitDefEqProofs only [go_sem, Nat.reduceLT, Nat.reduceAdd, Nat.reduceSub, Nat.reduceMul, Nat.reduceEqDiff, Nat.reduceBEq, Nat.reduceLeDiff, Int.reduceToNat, Int.reduceLT, Int.reduceLE, Int.reduceEq, reduceCtorEq, ↓reduceIte, i6, c6, w2, b4, w6, b8, w10, w13, w16, w24, w32, b34, w38, b40, w44, b46, w48, g51, take_of_len_map g51, w53, g56, take_of_len_map g56, w63, b65]
      · replace h := br_t b34 h
        cases h
        simp -implicitDefEqProofs only [go_sem, Nat.reduceLT, Nat.reduceAdd, Nat.reduceSub, Nat.reduceMul, Nat.reduceEqDiff, Nat.reduceBEq, Nat.reduceLeDiff, Int.reduceToNat, Int.reduceLT, Int.reduceLE, Int.reduceEq, reduceCtorEq, ↓reduceIte, i6, c6, w2, b4, w6, b8, w10, w13, w16, w24, w32, b34]
    · replace h := br_t b8 h
      cases h
      simp -implicitDefEqProofs only [go_sem, Nat.reduceLT, Nat.reduceAdd, Nat.reduceSub, Nat.reduceMul, Nat.reduceEqDiff, Nat.reduceBEq, Nat.reduceLeDiff, Int.reduceToNat, Int.reduceLT, Int.reduceLE, Int.reduceEq, reduceCtorEq, ↓reduceIte, i6, c6, w2, b4, w6, b8]
  · replace h := br_t b4 h
    cases h
    simp -implicitDefEqProofs only [go_sem, Nat.reduceLT, Nat.reduceAdd, Nat.reduceSub, Nat.reduceMul, Nat.reduceEqDiff, Nat.reduceBEq, Nat.reduceLeDiff, Int.reduceToNat, Int.reduceLT, Int.reduceLE, Int.reduceEq, reduceCtorEq, ↓reduceIte, i6, c6, w2, b4]
end Go.Pi.Ytbohlpligkfkiaa.LexOf
