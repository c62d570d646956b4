/- What functions of the program answer, and that the law answers true at every input; no condition -/
import Derived.Test.YtpfoleebeamgpaaStableOnesTabStableOnes
import Derived.Test.YtpfoleebeamgpaaStableOnesModStableOnes
set_option linter.all false
/- Functions of the program: that the code answers as the plain functions do. -/
namespace Go.Pi.Ytpfoleebeamgpaa.StableOnes
open Go Go.Proofs Go.Pi
set_option maxRecDepth 100000
set_option linter.all false
noncomputable def encInt (x : Int) : List AV := [.int .i64 x]
attribute [go_sem] encInt
theorem sq_encInt (q : Ql) (x : Int) : setQL q (encInt x) = encInt x := by simp [encInt]
theorem sqm_encInt (q : Ql) (xs : List Int) : setQLL q (xs.map encInt) = xs.map encInt := by rw [setQLL_map]; exact List.map_congr_left (fun x _ => sq_encInt q x)
theorem ow_encInt (x : Int) : ownOnlyL (encInt x) = true := by simp [encInt, ownOnlyL, ownOnly, ownLL_map]
theorem owm_encInt (xs : List Int) : ownOnlyLL (xs.map encInt) = true := ownLL_map _ ow_encInt xs
theorem fi_encInt (x : Int) : fine.fineL (encInt x) = true := by simp [encInt, fine.fineL, fine, fineLL_map]
theorem fim_encInt (xs : List Int) : fine.fineLL (xs.map encInt) = true := fineLL_map _ fi_encInt xs
theorem nu_encInt (x : Int) : nude.nudeL (encInt x) = true := by simp [encInt, nude.nudeL, nude, nudeLL_map]
theorem num_encInt (xs : List Int) : nude.nudeLL (xs.map encInt) = true := nudeLL_map _ nu_encInt xs
theorem st_encInt (q : Ql) (xs : List Int) : (xs.map encInt).map (fun x => x.map (setTop q)) = xs.map encInt := by rw [List.map_map]; rfl
attribute [go_sem] st_encInt
attribute [simp] sqm_encInt ow_encInt owm_encInt fi_encInt fim_encInt nu_encInt num_encInt
attribute [go_sem] sqm_encInt owm_encInt fim_encInt num_encInt
noncomputable def encLInt (q : Ql) (x : (List Int)) : List AV := [.ts q 1 (x.map encInt)]
attribute [go_sem] encLInt
theorem sq_encLInt (q q1 : Ql) (x : (List Int)) : setQL q (encLInt q1 x) = encLInt q x := by simp [encLInt, sq_encInt]
theorem sqm_encLInt (q q1 : Ql) (xs : List (List Int)) : setQLL q (xs.map (encLInt q1)) = xs.map (encLInt q) := by rw [setQLL_map]; exact List.map_congr_left (fun x _ => sq_encLInt q q1 x)
theorem ow_encLInt (x : (List Int)) : ownOnlyL (encLInt .own x) = true := by simp [encLInt, ownOnlyL, ownOnly, ownLL_map]
theorem owm_encLInt (xs : List (List Int)) : ownOnlyLL (xs.map (encLInt .own)) = true := ownLL_map _ ow_encLInt xs
theorem fi_encLInt (x : (List Int)) : fine.fineL (encLInt .own x) = true := by simp [encLInt, fine.fineL, fine, fineLL_map]
theorem fim_encLInt (xs : List (List Int)) : fine.fineLL (xs.map (encLInt .own)) = true := fineLL_map _ fi_encLInt xs
theorem nu_encLInt (x : (List Int)) : nude.nudeL (encLInt .own x) = true := by simp [encLInt, nude.nudeL, nude, nudeLL_map]
theorem num_encLInt (xs : List (List Int)) : nude.nudeLL (xs.map (encLInt .own)) = true := nudeLL_map _ nu_encLInt xs
theorem st_encLInt (q q1 : Ql) (xs : List (List Int)) : (xs.map (encLInt q1)).map (fun x => x.map (setTop q)) = xs.map (encLInt q) := by rw [List.map_map]; rfl
attribute [go_sem] st_encLInt
attribute [simp] sqm_encLInt ow_encLInt owm_encLInt fi_encLInt fim_encLInt nu_encLInt num_encLInt
attribute [go_sem] sqm_encLInt owm_encLInt fim_encLInt num_encLInt
noncomputable def encLLInt (q : Ql) (x : (List (List Int))) : List AV := [.ts q 1 (x.map (encLInt q))]
attribute [go_sem] encLLInt
theorem sq_encLLInt (q q1 : Ql) (x : (List (List Int))) : setQL q (encLLInt q1 x) = encLLInt q x := by simp [encLLInt, sq_encLInt]
theorem sqm_encLLInt (q q1 : Ql) (xs : List (List (List Int))) : setQLL q (xs.map (encLLInt q1)) = xs.map (encLLInt q) := by rw [setQLL_map]; exact List.map_congr_left (fun x _ => sq_encLLInt q q1 x)
theorem ow_encLLInt (x : (List (List Int))) : ownOnlyL (encLLInt .own x) = true := by simp [encLLInt, ownOnlyL, ownOnly, ownLL_map]
theorem owm_encLLInt (xs : List (List (List Int))) : ownOnlyLL (xs.map (encLLInt .own)) = true := ownLL_map _ ow_encLLInt xs
theorem fi_encLLInt (x : (List (List Int))) : fine.fineL (encLLInt .own x) = true := by simp [encLLInt, fine.fineL, fine, fineLL_map]
theorem fim_encLLInt (xs : List (List (List Int))) : fine.fineLL (xs.map (encLLInt .own)) = true := fineLL_map _ fi_encLLInt xs
theorem nu_encLLInt (x : (List (List Int))) : nude.nudeL (encLLInt .own x) = true := by simp [encLLInt, nude.nudeL, nude, nudeLL_map]
theorem num_encLLInt (xs : List (List (List Int))) : nude.nudeLL (xs.map (encLLInt .own)) = true := nudeLL_map _ nu_encLLInt xs
attribute [simp] sqm_encLLInt ow_encLLInt owm_encLLInt fi_encLLInt fim_encLLInt nu_encLLInt num_encLLInt
attribute [go_sem] sqm_encLLInt owm_encLLInt fim_encLLInt num_encLLInt
noncomputable def encLLLInt (q : Ql) (x : (List (List (List Int)))) : List AV := [.ts q 1 (x.map (encLLInt q))]
attribute [go_sem] encLLLInt
theorem sq_encLLLInt (q q1 : Ql) (x : (List (List (List Int)))) : setQL q (encLLLInt q1 x) = encLLLInt q x := by simp [encLLLInt, sq_encLLInt]
theorem sqm_encLLLInt (q q1 : Ql) (xs : List (List (List (List Int)))) : setQLL q (xs.map (encLLLInt q1)) = xs.map (encLLLInt q) := by rw [setQLL_map]; exact List.map_congr_left (fun x _ => sq_encLLLInt q q1 x)
theorem ow_encLLLInt (x : (List (List (List Int)))) : ownOnlyL (encLLLInt .own x) = true := by simp [encLLLInt, ownOnlyL, ownOnly, ownLL_map]
theorem owm_encLLLInt (xs : List (List (List (List Int)))) : ownOnlyLL (xs.map (encLLLInt .own)) = true := ownLL_map _ ow_encLLLInt xs
theorem fi_encLLLInt (x : (List (List (List Int)))) : fine.fineL (encLLLInt .own x) = true := by simp [encLLLInt, fine.fineL, fine, fineLL_map]
theorem fim_encLLLInt (xs : List (List (List (List Int)))) : fine.fineLL (xs.map (encLLLInt .own)) = true := fineLL_map _ fi_encLLLInt xs
theorem nu_encLLLInt (x : (List (List (List Int)))) : nude.nudeL (encLLLInt .own x) = true := by simp [encLLLInt, nude.nudeL, nude, nudeLL_map]
theorem num_encLLLInt (xs : List (List (List (List Int)))) : nude.nudeLL (xs.map (encLLLInt .own)) = true := nudeLL_map _ nu_encLLLInt xs
attribute [simp] sqm_encLLLInt ow_encLLLInt owm_encLLLInt fi_encLLLInt fim_encLLLInt nu_encLLLInt num_encLLLInt
attribute [go_sem] sqm_encLLLInt owm_encLLLInt fim_encLLLInt num_encLLLInt
noncomputable def encSpp (q : Ql) (x : Spp) : List AV := [.ts q 1 (x.ranked.map (encLLInt q))]
attribute [go_sem] encSpp
theorem sq_encSpp (q q1 : Ql) (x : Spp) : setQL q (encSpp q1 x) = encSpp q x := by simp [encSpp, sq_encLLInt]
theorem sqm_encSpp (q q1 : Ql) (xs : List Spp) : setQLL q (xs.map (encSpp q1)) = xs.map (encSpp q) := by rw [setQLL_map]; exact List.map_congr_left (fun x _ => sq_encSpp q q1 x)
theorem ow_encSpp (x : Spp) : ownOnlyL (encSpp .own x) = true := by simp [encSpp, ownOnlyL, ownOnly, ownLL_map]
theorem owm_encSpp (xs : List Spp) : ownOnlyLL (xs.map (encSpp .own)) = true := ownLL_map _ ow_encSpp xs
theorem fi_encSpp (x : Spp) : fine.fineL (encSpp .own x) = true := by simp [encSpp, fine.fineL, fine, fineLL_map]
theorem fim_encSpp (xs : List Spp) : fine.fineLL (xs.map (encSpp .own)) = true := fineLL_map _ fi_encSpp xs
theorem nu_encSpp (x : Spp) : nude.nudeL (encSpp .own x) = true := by simp [encSpp, nude.nudeL, nude, nudeLL_map]
theorem num_encSpp (xs : List Spp) : nude.nudeLL (xs.map (encSpp .own)) = true := nudeLL_map _ nu_encSpp xs
attribute [simp] sqm_encSpp ow_encSpp owm_encSpp fi_encSpp fim_encSpp nu_encSpp num_encSpp
attribute [go_sem] sqm_encSpp owm_encSpp fim_encSpp num_encSpp
noncomputable def encBool (x : Bool) : List AV := [.bool x]
attribute [go_sem] encBool
theorem sq_encBool (q : Ql) (x : Bool) : setQL q (encBool x) = encBool x := by simp [encBool]
theorem sqm_encBool (q : Ql) (xs : List Bool) : setQLL q (xs.map encBool) = xs.map encBool := by rw [setQLL_map]; exact List.map_congr_left (fun x _ => sq_encBool q x)
theorem ow_encBool (x : Bool) : ownOnlyL (encBool x) = true := by simp [encBool, ownOnlyL, ownOnly, ownLL_map]
theorem owm_encBool (xs : List Bool) : ownOnlyLL (xs.map encBool) = true := ownLL_map _ ow_encBool xs
theorem fi_encBool (x : Bool) : fine.fineL (encBool x) = true := by simp [encBool, fine.fineL, fine, fineLL_map]
theorem fim_encBool (xs : List Bool) : fine.fineLL (xs.map encBool) = true := fineLL_map _ fi_encBool xs
theorem nu_encBool (x : Bool) : nude.nudeL (encBool x) = true := by simp [encBool, nude.nudeL, nude, nudeLL_map]
theorem num_encBool (xs : List Bool) : nude.nudeLL (xs.map encBool) = true := nudeLL_map _ nu_encBool xs
theorem st_encBool (q : Ql) (xs : List Bool) : (xs.map encBool).map (fun x => x.map (setTop q)) = xs.map encBool := by rw [List.map_map]; rfl
attribute [go_sem] st_encBool
attribute [simp] sqm_encBool ow_encBool owm_encBool fi_encBool fim_encBool nu_encBool num_encBool
attribute [go_sem] sqm_encBool owm_encBool fim_encBool num_encBool
-- f100 laws.szIntS
theorem call100 (args : List AV) (S : St) : evCall T (evFL T) 100 args S = lendC (evFL T 100) S (lendAll S [[1], [0]] args) := evCall0 fn100 rfl rfl rfl args S
theorem callz100 (args : List AV) (S : St) : evCallFz T (evFL T) 100 args S = lendZ (evFL T 100) S [[0]] (lendAll S [[1], [0]] args) := evCallFz0 fn100 rfl rfl rfl args S
theorem calls100 (args : List AV) (S : St) : evCall (T.at true) (evFL T) 100 args S = lendC (evFL T 100) S (lendAll S [[1], [0]] args) := evCall0 fns100 rfl rfl rfl args S
theorem callsz100 (args : List AV) (S : St) : evCallFz (T.at true) (evFL T) 100 args S = lendZ (evFL T 100) S [[0]] (lendAll S [[1], [0]] args) := evCallFz0 fns100 rfl rfl rfl args S
attribute [go_sem] call100 callz100 calls100 callsz100
theorem e100 (a0 : (List Int)) (a1 : Int) (r : Int) (h : m100 a0 a1 = some r) : evFL T 100 [.ts .imm 1 (a0.map encInt), .int .i64 a1] [] = some (.int .i64 r, []) := by
  unfold m100 at h
  rw [evFL_at fn100 (Nat.le_of_ble_eq_true rfl) rfl (.inr rfl) ⟨rfl, rfl⟩]
  try simp -implicitDefEqProofs only [go_sem, Nat.reduceLT, Nat.reduceAdd, Nat.reduceSub, Nat.reduceMul, Nat.reduceEqDiff, Nat.reduceBEq, Nat.reduceLeDiff, Int.reduceToNat, Int.reduceLT, Int.reduceLE, Int.reduceEq, reduceCtorEq, ↓reduceIte, i100, c100]
  cases b1 : (ltI (wsub .i64 a1 (↑a0.length : Int)) 0 : Bool)
  · replace h := br_f b1 h
    cases h
    simp -implicitDefEqProofs only [go_sem, Nat.reduceLT, Nat.reduceAdd, Nat.reduceSub, Nat.reduceMul, Nat.reduceEqDiff, Nat.reduceBEq, Nat.reduceLeDiff, Int.reduceToNat, Int.reduceLT, Int.reduceLE, Int.reduceEq, reduceCtorEq, ↓reduceIte, i100, c100, b1]
  · replace h := br_t b1 h
    cases h
    simp -implicitDefEqProofs only [go_sem, Nat.reduceLT, Nat.reduceAdd, Nat.reduceSub, Nat.reduceMul, Nat.reduceEqDiff, Nat.reduceBEq, Nat.reduceLeDiff, Int.reduceToNat, Int.reduceLT, Int.reduceLE, Int.reduceEq, reduceCtorEq, ↓reduceIte, i100, c100, b1]
-- f86 laws.szIntSS
theorem call86 (args : List AV) (S : St) : evCall T (evFL T) 86 args S = lendC (evFL T 86) S (lendAll S [[1], [0]] args) := evCall0 fn86 rfl rfl rfl args S
theorem callz86 (args : List AV) (S : St) : evCallFz T (evFL T) 86 args S = lendZ (evFL T 86) S [[0]] (lendAll S [[1], [0]] args) := evCallFz0 fn86 rfl rfl rfl args S
theorem calls86 (args : List AV) (S : St) : evCall (T.at true) (evFL T) 86 args S = lendC (evFL T 86) S (lendAll S [[1], [0]] args) := evCall0 fns86 rfl rfl rfl args S
theorem callsz86 (args : List AV) (S : St) : evCallFz (T.at true) (evFL T) 86 args S = lendZ (evFL T 86) S [[0]] (lendAll S [[1], [0]] args) := evCallFz0 fns86 rfl rfl rfl args S
attribute [go_sem] call86 callz86 calls86 callsz86
noncomputable def X86_1 (a0 : (List (List Int))) (o : (Int ⊕ Unit)) : Ex × Fr × St :=
  match o with
  | .inl o => (.exit 0, frOf 27 (upd anyF 1 (.int .i64 o)), [])
  | .inr o => (.ret, frOf 27 (upd anyF 4 (.int .i64 (-1))), [])
noncomputable def E86_1 (a0 : (List (List Int))) (s : (Int × Int)) : Fr × St := (frOf 27 (upd (upd (upd anyF 0 (.ts .imm 1 (a0.map (encLInt .imm)))) 1 (.int .i64 s.1)) 5 (.int .i64 s.2)), [])
theorem b86_1 (a0 : (List (List Int))) (s : (Int × Int)) (o : Ctl (Int × Int) (Int ⊕ Unit)) (h : m86_1b a0 s = some o) : evCL T 0 k86_1b (E86_1 a0 s).1 (E86_1 a0 s).2 = some (ctlX (E86_1 a0) (X86_1 a0) o) := by
  unfold m86_1b at h
  obtain ⟨s13, s14⟩ := s
  replace h := sel2_some h
  try simp -implicitDefEqProofs only [go_sem, Nat.reduceLT, Nat.reduceAdd, Nat.reduceSub, Nat.reduceMul, Nat.reduceEqDiff, Nat.reduceBEq, Nat.reduceLeDiff, Int.reduceToNat, Int.reduceLT, Int.reduceLE, Int.reduceEq, reduceCtorEq, ↓reduceIte, E86_1, X86_1, k86_1b]
  cases b15 : (ltI s14 (↑a0.length : Int) : Bool)
  · replace h := br_f b15 h
    cases h
    simp -implicitDefEqProofs only [go_sem, Nat.reduceLT, Nat.reduceAdd, Nat.reduceSub, Nat.reduceMul, Nat.reduceEqDiff, Nat.reduceBEq, Nat.reduceLeDiff, Int.reduceToNat, Int.reduceLT, Int.reduceLE, Int.reduceEq, reduceCtorEq, ↓reduceIte, E86_1, X86_1, k86_1b, b15]
  · replace h := br_t b15 h
    obtain ⟨x16, q17, h⟩ := bnd_some h
    obtain ⟨g18, g19, g20⟩ := idx_row (encLInt .imm) q17
    try simp -implicitDefEqProofs only [go_sem, Nat.reduceLT, Nat.reduceAdd, Nat.reduceSub, Nat.reduceMul, Nat.reduceEqDiff, Nat.reduceBEq, Nat.reduceLeDiff, Int.reduceToNat, Int.reduceLT, Int.reduceLE, Int.reduceEq, reduceCtorEq, ↓reduceIte] at g19
    try simp -implicitDefEqProofs only [go_sem, Nat.reduceLT, Nat.reduceAdd, Nat.reduceSub, Nat.reduceMul, Nat.reduceEqDiff, Nat.reduceBEq, Nat.reduceLeDiff, Int.reduceToNat, Int.reduceLT, Int.reduceLE, Int.reduceEq, reduceCtorEq, ↓reduceIte] at g20
    obtain ⟨r23, q21, h⟩ := bnd_some h
    have w22 := e100 x16 s13 r23 q21
    try simp -implicitDefEqProofs only [go_sem, Nat.reduceLT, Nat.reduceAdd, Nat.reduceSub, Nat.reduceMul, Nat.reduceEqDiff, Nat.reduceBEq, Nat.reduceLeDiff, Int.reduceToNat, Int.reduceLT, Int.reduceLE, Int.reduceEq, reduceCtorEq, ↓reduceIte] at w22
    try simp -implicitDefEqProofs only [go_sem, Nat.reduceLT, Nat.reduceAdd, Nat.reduceSub, Nat.reduceMul, Nat.reduceEqDiff, Nat.reduceBEq, Nat.reduceLeDiff, Int.reduceToNat, Int.reduceLT, Int.reduceLE, Int.reduceEq, reduceCtorEq, ↓reduceIte, E86_1, X86_1, k86_1b, b15, g18, g19, g20, w22]
    cases b24 : (ltI r23 0 : Bool)
    · replace h := br_f b24 h
      cases h
      simp -implicitDefEqProofs only [go_sem, Nat.reduceLT, Nat.reduceAdd, Nat.reduceSub, Nat.reduceMul, Nat.reduceEqDiff, Nat.reduceBEq, Nat.reduceLeDiff, Int.reduceToNat, Int.reduceLT, Int.reduceLE, Int.reduceEq, reduceCtorEq, ↓reduceIte, E86_1, X86_1, k86_1b, b15, g18, g19, g20, w22, b24]
    · replace h := br_t b24 h
      cases h
      simp -implicitDefEqProofs only [go_sem, Nat.reduceLT, Nat.reduceAdd, Nat.reduceSub, Nat.reduceMul, Nat.reduceEqDiff, Nat.reduceBEq, Nat.reduceLeDiff, Int.reduceToNat, Int.reduceLT, Int.reduceLE, Int.reduceEq, reduceCtorEq, ↓reduceIte, E86_1, X86_1, k86_1b, b15, g18, g19, g20, w22, b24]
theorem e86_1 (a0 : (List (List Int))) (s : (Int × Int)) (o : (Int ⊕ Unit)) (h : loopP (m86_1b a0) s = some o) : evCL T 0 (.loop k86_1b) (E86_1 a0 s).1 (E86_1 a0 s).2 = some (X86_1 a0 o) :=
  loop_walk (E := E86_1 a0) (X := X86_1 a0) (by intro b; rcases b with b | b <;> (simp only [X86_1]; nofun)) (b86_1 a0) s o h
theorem e86 (a0 : (List (List Int))) (a1 : Int) (r : Int) (h : m86 a0 a1 = some r) : evFL T 86 [.ts .imm 1 (a0.map (encLInt .imm)), .int .i64 a1] [] = some (.int .i64 r, []) := by
  unfold m86 at h
  rw [evFL_at fn86 (Nat.le_of_ble_eq_true rfl) rfl (.inr rfl) ⟨rfl, rfl⟩]
  try simp -implicitDefEqProofs only [go_sem, Nat.reduceLT, Nat.reduceAdd, Nat.reduceSub, Nat.reduceMul, Nat.reduceEqDiff, Nat.reduceBEq, Nat.reduceLeDiff, Int.reduceToNat, Int.reduceLT, Int.reduceLE, Int.reduceEq, reduceCtorEq, ↓reduceIte, i86, c86]
  cases b1 : (ltI (wsub .i64 a1 (↑a0.length : Int)) 0 : Bool)
  · replace h := br_f b1 h
    try simp -implicitDefEqProofs only [go_sem, Nat.reduceLT, Nat.reduceAdd, Nat.reduceSub, Nat.reduceMul, Nat.reduceEqDiff, Nat.reduceBEq, Nat.reduceLeDiff, Int.reduceToNat, Int.reduceLT, Int.reduceLE, Int.reduceEq, reduceCtorEq, ↓reduceIte, i86, c86, b1]
    obtain ⟨o, q25, h⟩ := bnd_some h
    rcases o with v27 | ⟨⟩
    · replace h := selS_l h
      have w26 := e86_1 a0 (wsub .i64 a1 (↑a0.length : Int), 0) (.inl v27) q25
      simp only [E86_1, X86_1] at w26
      try simp -implicitDefEqProofs only [go_sem, Nat.reduceLT, Nat.reduceAdd, Nat.reduceSub, Nat.reduceMul, Nat.reduceEqDiff, Nat.reduceBEq, Nat.reduceLeDiff, Int.reduceToNat, Int.reduceLT, Int.reduceLE, Int.reduceEq, reduceCtorEq, ↓reduceIte] at w26
      cases h
      simp -implicitDefEqProofs only [go_sem, Nat.reduceLT, Nat.reduceAdd, Nat.reduceSub, Nat.reduceMul, Nat.reduceEqDiff, Nat.reduceBEq, Nat.reduceLeDiff, Int.reduceToNat, Int.reduceLT, Int.reduceLE, Int.reduceEq, reduceCtorEq, ↓reduceIte, i86, c86, b1, w26]
    · replace h := selS_r h
      have w26 := e86_1 a0 (wsub .i64 a1 (↑a0.length : Int), 0) (.inr ()) q25
      simp only [E86_1, X86_1] at w26
      try simp -implicitDefEqProofs only [go_sem, Nat.reduceLT, Nat.reduceAdd, Nat.reduceSub, Nat.reduceMul, Nat.reduceEqDiff, Nat.reduceBEq, Nat.reduceLeDiff, Int.reduceToNat, Int.reduceLT, Int.reduceLE, Int.reduceEq, reduceCtorEq, ↓reduceIte] at w26
      cases h
      simp -implicitDefEqProofs only [go_sem, Nat.reduceLT, Nat.reduceAdd, Nat.reduceSub, Nat.reduceMul, Nat.reduceEqDiff, Nat.reduceBEq, Nat.reduceLeDiff, Int.reduceToNat, Int.reduceLT, Int.reduceLE, Int.reduceEq, reduceCtorEq, ↓reduceIte, i86, c86, b1, w26]
  · replace h := br_t b1 h
    cases h
    simp -implicitDefEqProofs only [go_sem, Nat.reduceLT, Nat.reduceAdd, Nat.reduceSub, Nat.reduceMul, Nat.reduceEqDiff, Nat.reduceBEq, Nat.reduceLeDiff, Int.reduceToNat, Int.reduceLT, Int.reduceLE, Int.reduceEq, reduceCtorEq, ↓reduceIte, i86, c86, b1]
-- f46 laws.szIntSSS
theorem call46 (args : List AV) (S : St) : evCall T (evFL T) 46 args S = lendC (evFL T 46) S (lendAll S [[1], [0]] args) := evCall0 fn46 rfl rfl rfl args S
theorem callz46 (args : List AV) (S : St) : evCallFz T (evFL T) 46 args S = lendZ (evFL T 46) S [[0]] (lendAll S [[1], [0]] args) := evCallFz0 fn46 rfl rfl rfl args S
theorem calls46 (args : List AV) (S : St) : evCall (T.at true) (evFL T) 46 args S = lendC (evFL T 46) S (lendAll S [[1], [0]] args) := evCall0 fns46 rfl rfl rfl args S
theorem callsz46 (args : List AV) (S : St) : evCallFz (T.at true) (evFL T) 46 args S = lendZ (evFL T 46) S [[0]] (lendAll S [[1], [0]] args) := evCallFz0 fns46 rfl rfl rfl args S
attribute [go_sem] call46 callz46 calls46 callsz46
noncomputable def X46_1 (a0 : (List (List (List Int)))) (o : (Int ⊕ Unit)) : Ex × Fr × St :=
  match o with
  | .inl o => (.exit 0, frOf 27 (upd anyF 1 (.int .i64 o)), [])
  | .inr o => (.ret, frOf 27 (upd anyF 4 (.int .i64 (-1))), [])
noncomputable def E46_1 (a0 : (List (List (List Int)))) (s : (Int × Int)) : Fr × St := (frOf 27 (upd (upd (upd anyF 0 (.ts .imm 1 (a0.map (encLLInt .imm)))) 1 (.int .i64 s.1)) 5 (.int .i64 s.2)), [])
theorem b46_1 (a0 : (List (List (List Int)))) (s : (Int × Int)) (o : Ctl (Int × Int) (Int ⊕ Unit)) (h : m46_1b a0 s = some o) : evCL T 0 k46_1b (E46_1 a0 s).1 (E46_1 a0 s).2 = some (ctlX (E46_1 a0) (X46_1 a0) o) := by
  unfold m46_1b at h
  obtain ⟨s13, s14⟩ := s
  replace h := sel2_some h
  try simp -implicitDefEqProofs only [go_sem, Nat.reduceLT, Nat.reduceAdd, Nat.reduceSub, Nat.reduceMul, Nat.reduceEqDiff, Nat.reduceBEq, Nat.reduceLeDiff, Int.reduceToNat, Int.reduceLT, Int.reduceLE, Int.reduceEq, reduceCtorEq, ↓reduceIte, E46_1, X46_1, k46_1b]
  cases b15 : (ltI s14 (↑a0.length : Int) : Bool)
  · replace h := br_f b15 h
    cases h
    simp -implicitDefEqProofs only [go_sem, Nat.reduceLT, Nat.reduceAdd, Nat.reduceSub, Nat.reduceMul, Nat.reduceEqDiff, Nat.reduceBEq, Nat.reduceLeDiff, Int.reduceToNat, Int.reduceLT, Int.reduceLE, Int.reduceEq, reduceCtorEq, ↓reduceIte, E46_1, X46_1, k46_1b, b15]
  · replace h := br_t b15 h
    obtain ⟨x16, q17, h⟩ := bnd_some h
    obtain ⟨g18, g19, g20⟩ := idx_row (encLLInt .imm) q17
    try simp -implicitDefEqProofs only [go_sem, Nat.reduceLT, Nat.reduceAdd, Nat.reduceSub, Nat.reduceMul, Nat.reduceEqDiff, Nat.reduceBEq, Nat.reduceLeDiff, Int.reduceToNat, Int.reduceLT, Int.reduceLE, Int.reduceEq, reduceCtorEq, ↓reduceIte] at g19
    try simp -implicitDefEqProofs only [go_sem, Nat.reduceLT, Nat.reduceAdd, Nat.reduceSub, Nat.reduceMul, Nat.reduceEqDiff, Nat.reduceBEq, Nat.reduceLeDiff, Int.reduceToNat, Int.reduceLT, Int.reduceLE, Int.reduceEq, reduceCtorEq, ↓reduceIte] at g20
    obtain ⟨r23, q21, h⟩ := bnd_some h
    have w22 := e86 x16 s13 r23 q21
    try simp -implicitDefEqProofs only [go_sem, Nat.reduceLT, Nat.reduceAdd, Nat.reduceSub, Nat.reduceMul, Nat.reduceEqDiff, Nat.reduceBEq, Nat.reduceLeDiff, Int.reduceToNat, Int.reduceLT, Int.reduceLE, Int.reduceEq, reduceCtorEq, ↓reduceIte] at w22
    try simp -implicitDefEqProofs only [go_sem, Nat.reduceLT, Nat.reduceAdd, Nat.reduceSub, Nat.reduceMul, Nat.reduceEqDiff, Nat.reduceBEq, Nat.reduceLeDiff, Int.reduceToNat, Int.reduceLT, Int.reduceLE, Int.reduceEq, reduceCtorEq, ↓reduceIte, E46_1, X46_1, k46_1b, b15, g18, g19, g20, w22]
    cases b24 : (ltI r23 0 : Bool)
    · replace h := br_f b24 h
      cases h
      simp -implicitDefEqProofs only [go_sem, Nat.reduceLT, Nat.reduceAdd, Nat.reduceSub, Nat.reduceMul, Nat.reduceEqDiff, Nat.reduceBEq, Nat.reduceLeDiff, Int.reduceToNat, Int.reduceLT, Int.reduceLE, Int.reduceEq, reduceCtorEq, ↓reduceIte, E46_1, X46_1, k46_1b, b15, g18, g19, g20, w22, b24]
    · replace h := br_t b24 h
      cases h
      simp -implicitDefEqProofs only [go_sem, Nat.reduceLT, Nat.reduceAdd, Nat.reduceSub, Nat.reduceMul, Nat.reduceEqDiff, Nat.reduceBEq, Nat.reduceLeDiff, Int.reduceToNat, Int.reduceLT, Int.reduceLE, Int.reduceEq, reduceCtorEq, ↓reduceIte, E46_1, X46_1, k46_1b, b15, g18, g19, g20, w22, b24]
theorem e46_1 (a0 : (List (List (List Int)))) (s : (Int × Int)) (o : (Int ⊕ Unit)) (h : loopP (m46_1b a0) s = some o) : evCL T 0 (.loop k46_1b) (E46_1 a0 s).1 (E46_1 a0 s).2 = some (X46_1 a0 o) :=
  loop_walk (E := E46_1 a0) (X := X46_1 a0) (by intro b; rcases b with b | b <;> (simp only [X46_1]; nofun)) (b46_1 a0) s o h
theorem e46 (a0 : (List (List (List Int)))) (a1 : Int) (r : Int) (h : m46 a0 a1 = some r) : evFL T 46 [.ts .imm 1 (a0.map (encLLInt .imm)), .int .i64 a1] [] = some (.int .i64 r, []) := by
  unfold m46 at h
  rw [evFL_at fn46 (Nat.le_of_ble_eq_true rfl) rfl (.inr rfl) ⟨rfl, rfl⟩]
  try simp -implicitDefEqProofs only [go_sem, Nat.reduceLT, Nat.reduceAdd, Nat.reduceSub, Nat.reduceMul, Nat.reduceEqDiff, Nat.reduceBEq, Nat.reduceLeDiff, Int.reduceToNat, Int.reduceLT, Int.reduceLE, Int.reduceEq, reduceCtorEq, ↓reduceIte, i46, c46]
  cases b1 : (ltI (wsub .i64 a1 (↑a0.length : Int)) 0 : Bool)
  · replace h := br_f b1 h
    try simp -implicitDefEqProofs only [go_sem, Nat.reduceLT, Nat.reduceAdd, Nat.reduceSub, Nat.reduceMul, Nat.reduceEqDiff, Nat.reduceBEq, Nat.reduceLeDiff, Int.reduceToNat, Int.reduceLT, Int.reduceLE, Int.reduceEq, reduceCtorEq, ↓reduceIte, i46, c46, b1]
    obtain ⟨o, q25, h⟩ := bnd_some h
    rcases o with v27 | ⟨⟩
    · replace h := selS_l h
      have w26 := e46_1 a0 (wsub .i64 a1 (↑a0.length : Int), 0) (.inl v27) q25
      simp only [E46_1, X46_1] at w26
      try simp -implicitDefEqProofs only [go_sem, Nat.reduceLT, Nat.reduceAdd, Nat.reduceSub, Nat.reduceMul, Nat.reduceEqDiff, Nat.reduceBEq, Nat.reduceLeDiff, Int.reduceToNat, Int.reduceLT, Int.reduceLE, Int.reduceEq, reduceCtorEq, ↓reduceIte] at w26
      cases h
      simp -implicitDefEqProofs only [go_sem, Nat.reduceLT, Nat.reduceAdd, Nat.reduceSub, Nat.reduceMul, Nat.reduceEqDiff, Nat.reduceBEq, Nat.reduceLeDiff, Int.reduceToNat, Int.reduceLT, Int.reduceLE, Int.reduceEq, reduceCtorEq, ↓reduceIte, i46, c46, b1, w26]
    · replace h := selS_r h
      have w26 := e46_1 a0 (wsub .i64 a1 (↑a0.length : Int), 0) (.inr ()) q25
      simp only [E46_1, X46_1] at w26
      try simp -implicitDefEqProofs only [go_sem, Nat.reduceLT, Nat.reduceAdd, Nat.reduceSub, Nat.reduceMul, Nat.reduceEqDiff, Nat.reduceBEq, Nat.reduceLeDiff, Int.reduceToNat, Int.reduceLT, Int.reduceLE, Int.reduceEq, reduceCtorEq, ↓reduceIte] at w26
      cases h
      simp -implicitDefEqProofs only [go_sem, Nat.reduceLT, Nat.reduceAdd, Nat.reduceSub, Nat.reduceMul, Nat.reduceEqDiff, Nat.reduceBEq, Nat.reduceLeDiff, Int.reduceToNat, Int.reduceLT, Int.reduceLE, Int.reduceEq, reduceCtorEq, ↓reduceIte, i46, c46, b1, w26]
  · replace h := br_t b1 h
    cases h
    simp -implicitDefEqProofs only [go_sem, Nat.reduceLT, Nat.reduceAdd, Nat.reduceSub, Nat.reduceMul, Nat.reduceEqDiff, Nat.reduceBEq, Nat.reduceLeDiff, Int.reduceToNat, Int.reduceLT, Int.reduceLE, Int.reduceEq, reduceCtorEq, ↓reduceIte, i46, c46, b1]
-- f13 laws.szSpp
theorem call13 (args : List AV) (S : St) : evCall T (evFL T) 13 args S = lendC (evFL T 13) S (lendAll S [[1], [0]] args) := evCall0 fn13 rfl rfl rfl args S
theorem callz13 (args : List AV) (S : St) : evCallFz T (evFL T) 13 args S = lendZ (evFL T 13) S [[0]] (lendAll S [[1], [0]] args) := evCallFz0 fn13 rfl rfl rfl args S
theorem calls13 (args : List AV) (S : St) : evCall (T.at true) (evFL T) 13 args S = lendC (evFL T 13) S (lendAll S [[1], [0]] args) := evCall0 fns13 rfl rfl rfl args S
theorem callsz13 (args : List AV) (S : St) : evCallFz (T.at true) (evFL T) 13 args S = lendZ (evFL T 13) S [[0]] (lendAll S [[1], [0]] args) := evCallFz0 fns13 rfl rfl rfl args S
attribute [go_sem] call13 callz13 calls13 callsz13
theorem e13 (a0 : Spp) (a1 : Int) (r : Int) (h : m13 a0 a1 = some r) : evFL T 13 [.agg [.ts .imm 1 (a0.ranked.map (encLLInt .imm))], .int .i64 a1] [] = some (.int .i64 r, []) := by
  unfold m13 at h
  rw [evFL_at fn13 (Nat.le_of_ble_eq_true rfl) rfl (.inr rfl) ⟨rfl, rfl⟩]
  obtain ⟨r3, q1, h⟩ := bnd_some h
  have w2 := e46 a0.ranked a1 r3 q1
  try simp -implicitDefEqProofs only [go_sem, Nat.reduceLT, Nat.reduceAdd, Nat.reduceSub, Nat.reduceMul, Nat.reduceEqDiff, Nat.reduceBEq, Nat.reduceLeDiff, Int.reduceToNat, Int.reduceLT, Int.reduceLE, Int.reduceEq, reduceCtorEq, ↓reduceIte] at w2
  try simp -implicitDefEqProofs only [go_sem, Nat.reduceLT, Nat.reduceAdd, Nat.reduceSub, Nat.reduceMul, Nat.reduceEqDiff, Nat.reduceBEq, Nat.reduceLeDiff, Int.reduceToNat, Int.reduceLT, Int.reduceLE, Int.reduceEq, reduceCtorEq, ↓reduceIte, i13, c13, w2]
  cases b4 : (ltI r3 0 : Bool)
  · replace h := br_f b4 h
    cases h
    simp -implicitDefEqProofs only [go_sem, Nat.reduceLT, Nat.reduceAdd, Nat.reduceSub, Nat.reduceMul, Nat.reduceEqDiff, Nat.reduceBEq, Nat.reduceLeDiff, Int.reduceToNat, Int.reduceLT, Int.reduceLE, Int.reduceEq, reduceCtorEq, ↓reduceIte, i13, c13, w2, b4]
  · replace h := br_t b4 h
    cases h
    simp -implicitDefEqProofs only [go_sem, Nat.reduceLT, Nat.reduceAdd, Nat.reduceSub, Nat.reduceMul, Nat.reduceEqDiff, Nat.reduceBEq, Nat.reduceLeDiff, Int.reduceToNat, Int.reduceLT, Int.reduceLE, Int.reduceEq, reduceCtorEq, ↓reduceIte, i13, c13, w2, b4]
-- f19 laws.toIntS
theorem call19 (args : List AV) (S : St) : evCall T (evFL T) 19 args S = lendC (evFL T 19) S (lendAll S [[1]] args) := evCall0 fn19 rfl rfl rfl args S
theorem callz19 (args : List AV) (S : St) : evCallFz T (evFL T) 19 args S = lendZ (evFL T 19) S [[1]] (lendAll S [[1]] args) := evCallFz0 fn19 rfl rfl rfl args S
theorem calls19 (args : List AV) (S : St) : evCall (T.at true) (evFL T) 19 args S = lendC (evFL T 19) S (lendAll S [[1]] args) := evCall0 fns19 rfl rfl rfl args S
theorem callsz19 (args : List AV) (S : St) : evCallFz (T.at true) (evFL T) 19 args S = lendZ (evFL T 19) S [[1]] (lendAll S [[1]] args) := evCallFz0 fns19 rfl rfl rfl args S
attribute [go_sem] call19 callz19 calls19 callsz19
noncomputable def X19_1 (a0 : (List Int)) (o : (List Int)) : Ex × Fr × St :=
  (.exit 0, frOf 22 (upd anyF 3 (.sl 0 0 o.length)), [some ⟨.arr, 1, o.map encInt⟩])
noncomputable def E19_1 (a0 : (List Int)) (s : (Int × List Int)) : Fr × St := (frOf 22 (upd (upd (upd anyF 0 (.ts .imm 1 (a0.map encInt))) 3 (.sl 0 0 s.2.length)) 4 (.int .i64 s.1)), [some ⟨.arr, 1, s.2.map encInt⟩])
theorem b19_1 (a0 : (List Int)) (s : (Int × List Int)) (o : Ctl (Int × List Int) (List Int)) (h : m19_1b a0 s = some o) : evCL T 0 k19_1b (E19_1 a0 s).1 (E19_1 a0 s).2 = some (ctlX (E19_1 a0) (X19_1 a0) o) := by
  unfold m19_1b at h
  obtain ⟨s14, s15⟩ := s
  replace h := sel2_some h
  try simp -implicitDefEqProofs only [go_sem, Nat.reduceLT, Nat.reduceAdd, Nat.reduceSub, Nat.reduceMul, Nat.reduceEqDiff, Nat.reduceBEq, Nat.reduceLeDiff, Int.reduceToNat, Int.reduceLT, Int.reduceLE, Int.reduceEq, reduceCtorEq, ↓reduceIte, E19_1, X19_1, k19_1b]
  cases b16 : (ltI s14 (↑a0.length : Int) : Bool)
  · replace h := br_f b16 h
    cases h
    simp -implicitDefEqProofs only [go_sem, Nat.reduceLT, Nat.reduceAdd, Nat.reduceSub, Nat.reduceMul, Nat.reduceEqDiff, Nat.reduceBEq, Nat.reduceLeDiff, Int.reduceToNat, Int.reduceLT, Int.reduceLE, Int.reduceEq, reduceCtorEq, ↓reduceIte, E19_1, X19_1, k19_1b, b16]
  · replace h := br_t b16 h
    obtain ⟨x17, q18, h⟩ := bnd_some h
    obtain ⟨g19, g20, g21⟩ := idx_row encInt q18
    try simp -implicitDefEqProofs only [go_sem, Nat.reduceLT, Nat.reduceAdd, Nat.reduceSub, Nat.reduceMul, Nat.reduceEqDiff, Nat.reduceBEq, Nat.reduceLeDiff, Int.reduceToNat, Int.reduceLT, Int.reduceLE, Int.reduceEq, reduceCtorEq, ↓reduceIte] at g20
    try simp -implicitDefEqProofs only [go_sem, Nat.reduceLT, Nat.reduceAdd, Nat.reduceSub, Nat.reduceMul, Nat.reduceEqDiff, Nat.reduceBEq, Nat.reduceLeDiff, Int.reduceToNat, Int.reduceLT, Int.reduceLE, Int.reduceEq, reduceCtorEq, ↓reduceIte] at g21
    obtain ⟨x22, q23, h⟩ := bnd_some h
    obtain ⟨g24, g25, g26⟩ := idx_row encInt q23
    try simp -implicitDefEqProofs only [go_sem, Nat.reduceLT, Nat.reduceAdd, Nat.reduceSub, Nat.reduceMul, Nat.reduceEqDiff, Nat.reduceBEq, Nat.reduceLeDiff, Int.reduceToNat, Int.reduceLT, Int.reduceLE, Int.reduceEq, reduceCtorEq, ↓reduceIte] at g25
    try simp -implicitDefEqProofs only [go_sem, Nat.reduceLT, Nat.reduceAdd, Nat.reduceSub, Nat.reduceMul, Nat.reduceEqDiff, Nat.reduceBEq, Nat.reduceLeDiff, Int.reduceToNat, Int.reduceLT, Int.reduceLE, Int.reduceEq, reduceCtorEq, ↓reduceIte] at g26
    cases h
    simp -implicitDefEqProofs only [go_sem, Nat.reduceLT, Nat.reduceAdd, Nat.reduceSub, Nat.reduceMul, Nat.reduceEqDiff, Nat.reduceBEq, Nat.reduceLeDiff, Int.reduceToNat, Int.reduceLT, Int.reduceLE, Int.reduceEq, reduceCtorEq, ↓reduceIte, E19_1, X19_1, k19_1b, b16, g19, g20, g21, g24, g25, g26]
theorem e19_1 (a0 : (List Int)) (s : (Int × List Int)) (o : (List Int)) (h : loopP (m19_1b a0) s = some o) : evCL T 0 (.loop k19_1b) (E19_1 a0 s).1 (E19_1 a0 s).2 = some (X19_1 a0 o) :=
  loop_walk (E := E19_1 a0) (X := X19_1 a0) (by intro b; (simp only [X19_1]; nofun)) (b19_1 a0) s o h
theorem e19 (a0 : (List Int)) (r : (List Int)) (h : m19 a0 = some r) : evFL T 19 [.ts .imm 1 (a0.map encInt)] [] = some (.sl 0 0 r.length, [some ⟨.arr, 1, r.map encInt⟩]) := by
  unfold m19 at h
  rw [evFL_at fn19 (Nat.le_of_ble_eq_true rfl) rfl (.inr rfl) ⟨rfl, rfl⟩]
  obtain ⟨g1, h⟩ := ck_some h
  try simp -implicitDefEqProofs only [go_sem, Nat.reduceLT, Nat.reduceAdd, Nat.reduceSub, Nat.reduceMul, Nat.reduceEqDiff, Nat.reduceBEq, Nat.reduceLeDiff, Int.reduceToNat, Int.reduceLT, Int.reduceLE, Int.reduceEq, reduceCtorEq, ↓reduceIte] at g1
  obtain ⟨v29, q27, h⟩ := bnd_some h
  have w28 := e19_1 a0 (0, List.replicate a0.length 0) v29 q27
  simp only [E19_1, X19_1] at w28
  try simp -implicitDefEqProofs only [go_sem, Nat.reduceLT, Nat.reduceAdd, Nat.reduceSub, Nat.reduceMul, Nat.reduceEqDiff, Nat.reduceBEq, Nat.reduceLeDiff, Int.reduceToNat, Int.reduceLT, Int.reduceLE, Int.reduceEq, reduceCtorEq, ↓reduceIte] at w28
  cases h
  simp -implicitDefEqProofs only [go_sem, Nat.reduceLT, Nat.reduceAdd, Nat.reduceSub, Nat.reduceMul, Nat.reduceEqDiff, Nat.reduceBEq, Nat.reduceLeDiff, Int.reduceToNat, Int.reduceLT, Int.reduceLE, Int.reduceEq, reduceCtorEq, ↓reduceIte, i19, c19, g1, w28]
-- f88 laws.toIntSS
theorem call88 (args : List AV) (S : St) : evCall T (evFL T) 88 args S = lendC (evFL T 88) S (lendAll S [[1]] args) := evCall0 fn88 rfl rfl rfl args S
theorem callz88 (args : List AV) (S : St) : evCallFz T (evFL T) 88 args S = lendZ (evFL T 88) S [[1]] (lendAll S [[1]] args) := evCallFz0 fn88 rfl rfl rfl args S
theorem calls88 (args : List AV) (S : St) : evCall (T.at true) (evFL T) 88 args S = lendC (evFL T 88) S (lendAll S [[1]] args) := evCall0 fns88 rfl rfl rfl args S
theorem callsz88 (args : List AV) (S : St) : evCallFz (T.at true) (evFL T) 88 args S = lendZ (evFL T 88) S [[1]] (lendAll S [[1]] args) := evCallFz0 fns88 rfl rfl rfl args S
attribute [go_sem] call88 callz88 calls88 callsz88
noncomputable def X88_1 (a0 : (List (List Int))) (o : (List (List Int))) : Ex × Fr × St :=
  (.exit 0, frOf 23 (upd anyF 3 (.sl 0 0 o.length)), [some ⟨.arr, 1, o.map (encLInt .own)⟩])
noncomputable def E88_1 (a0 : (List (List Int))) (s : (Int × List (List Int))) : Fr × St := (frOf 23 (upd (upd (upd anyF 0 (.ts .imm 1 (a0.map (encLInt .imm)))) 3 (.sl 0 0 s.2.length)) 4 (.int .i64 s.1)), [some ⟨.arr, 1, s.2.map (encLInt .own)⟩])
theorem b88_1 (a0 : (List (List Int))) (s : (Int × List (List Int))) (o : Ctl (Int × List (List Int)) (List (List Int))) (h : m88_1b a0 s = some o) : evCL T 0 k88_1b (E88_1 a0 s).1 (E88_1 a0 s).2 = some (ctlX (E88_1 a0) (X88_1 a0) o) := by
  unfold m88_1b at h
  obtain ⟨s17, s18⟩ := s
  replace h := sel2_some h
  try simp -implicitDefEqProofs only [go_sem, Nat.reduceLT, Nat.reduceAdd, Nat.reduceSub, Nat.reduceMul, Nat.reduceEqDiff, Nat.reduceBEq, Nat.reduceLeDiff, Int.reduceToNat, Int.reduceLT, Int.reduceLE, Int.reduceEq, reduceCtorEq, ↓reduceIte, E88_1, X88_1, k88_1b]
  cases b19 : (ltI s17 (↑a0.length : Int) : Bool)
  · replace h := br_f b19 h
    cases h
    simp -implicitDefEqProofs only [go_sem, Nat.reduceLT, Nat.reduceAdd, Nat.reduceSub, Nat.reduceMul, Nat.reduceEqDiff, Nat.reduceBEq, Nat.reduceLeDiff, Int.reduceToNat, Int.reduceLT, Int.reduceLE, Int.reduceEq, reduceCtorEq, ↓reduceIte, E88_1, X88_1, k88_1b, b19]
  · replace h := br_t b19 h
    obtain ⟨x20, q21, h⟩ := bnd_some h
    obtain ⟨g22, g23, g24⟩ := idx_row (encLInt .imm) q21
    try simp -implicitDefEqProofs only [go_sem, Nat.reduceLT, Nat.reduceAdd, Nat.reduceSub, Nat.reduceMul, Nat.reduceEqDiff, Nat.reduceBEq, Nat.reduceLeDiff, Int.reduceToNat, Int.reduceLT, Int.reduceLE, Int.reduceEq, reduceCtorEq, ↓reduceIte] at g23
    try simp -implicitDefEqProofs only [go_sem, Nat.reduceLT, Nat.reduceAdd, Nat.reduceSub, Nat.reduceMul, Nat.reduceEqDiff, Nat.reduceBEq, Nat.reduceLeDiff, Int.reduceToNat, Int.reduceLT, Int.reduceLE, Int.reduceEq, reduceCtorEq, ↓reduceIte] at g24
    obtain ⟨r27, q25, h⟩ := bnd_some h
    have w26 := e19 x20 r27 q25
    try simp -implicitDefEqProofs only [go_sem, Nat.reduceLT, Nat.reduceAdd, Nat.reduceSub, Nat.reduceMul, Nat.reduceEqDiff, Nat.reduceBEq, Nat.reduceLeDiff, Int.reduceToNat, Int.reduceLT, Int.reduceLE, Int.reduceEq, reduceCtorEq, ↓reduceIte] at w26
    obtain ⟨x28, q29, h⟩ := bnd_some h
    obtain ⟨g30, g31, g32⟩ := idx_row (encLInt .own) q29
    try simp -implicitDefEqProofs only [go_sem, Nat.reduceLT, Nat.reduceAdd, Nat.reduceSub, Nat.reduceMul, Nat.reduceEqDiff, Nat.reduceBEq, Nat.reduceLeDiff, Int.reduceToNat, Int.reduceLT, Int.reduceLE, Int.reduceEq, reduceCtorEq, ↓reduceIte] at g31
    try simp -implicitDefEqProofs only [go_sem, Nat.reduceLT, Nat.reduceAdd, Nat.reduceSub, Nat.reduceMul, Nat.reduceEqDiff, Nat.reduceBEq, Nat.reduceLeDiff, Int.reduceToNat, Int.reduceLT, Int.reduceLE, Int.reduceEq, reduceCtorEq, ↓reduceIte] at g32
    cases h
    simp -implicitDefEqProofs only [go_sem, Nat.reduceLT, Nat.reduceAdd, Nat.reduceSub, Nat.reduceMul, Nat.reduceEqDiff, Nat.reduceBEq, Nat.reduceLeDiff, Int.reduceToNat, Int.reduceLT, Int.reduceLE, Int.reduceEq, reduceCtorEq, ↓reduceIte, E88_1, X88_1, k88_1b, b19, g22, g23, g24, w26, g30, g31, g32]
theorem e88_1 (a0 : (List (List Int))) (s : (Int × List (List Int))) (o : (List (List Int))) (h : loopP (m88_1b a0) s = some o) : evCL T 0 (.loop k88_1b) (E88_1 a0 s).1 (E88_1 a0 s).2 = some (X88_1 a0 o) :=
  loop_walk (E := E88_1 a0) (X := X88_1 a0) (by intro b; (simp only [X88_1]; nofun)) (b88_1 a0) s o h
theorem e88 (a0 : (List (List Int))) (r : (List (List Int))) (h : m88 a0 = some r) : evFL T 88 [.ts .imm 1 (a0.map (encLInt .imm))] [] = some (.sl 0 0 r.length, [some ⟨.arr, 1, r.map (encLInt .own)⟩]) := by
  unfold m88 at h
  rw [evFL_at fn88 (Nat.le_of_ble_eq_true rfl) rfl (.inr rfl) ⟨rfl, rfl⟩]
  obtain ⟨g1, h⟩ := ck_some h
  try simp -implicitDefEqProofs only [go_sem, Nat.reduceLT, Nat.reduceAdd, Nat.reduceSub, Nat.reduceMul, Nat.reduceEqDiff, Nat.reduceBEq, Nat.reduceLeDiff, Int.reduceToNat, Int.reduceLT, Int.reduceLE, Int.reduceEq, reduceCtorEq, ↓reduceIte] at g1
  obtain ⟨v35, q33, h⟩ := bnd_some h
  have w34 := e88_1 a0 (0, List.replicate a0.length []) v35 q33
  simp only [E88_1, X88_1] at w34
  try simp -implicitDefEqProofs only [go_sem, Nat.reduceLT, Nat.reduceAdd, Nat.reduceSub, Nat.reduceMul, Nat.reduceEqDiff, Nat.reduceBEq, Nat.reduceLeDiff, Int.reduceToNat, Int.reduceLT, Int.reduceLE, Int.reduceEq, reduceCtorEq, ↓reduceIte] at w34
  cases h
  simp -implicitDefEqProofs only [go_sem, Nat.reduceLT, Nat.reduceAdd, Nat.reduceSub, Nat.reduceMul, Nat.reduceEqDiff, Nat.reduceBEq, Nat.reduceLeDiff, Int.reduceToNat, Int.reduceLT, Int.reduceLE, Int.reduceEq, reduceCtorEq, ↓reduceIte, i88, c88, g1, w34]
-- f50 laws.toIntSSS
theorem call50 (args : List AV) (S : St) : evCall T (evFL T) 50 args S = lendC (evFL T 50) S (lendAll S [[1]] args) := evCall0 fn50 rfl rfl rfl args S
theorem callz50 (args : List AV) (S : St) : evCallFz T (evFL T) 50 args S = lendZ (evFL T 50) S [[1]] (lendAll S [[1]] args) := evCallFz0 fn50 rfl rfl rfl args S
theorem calls50 (args : List AV) (S : St) : evCall (T.at true) (evFL T) 50 args S = lendC (evFL T 50) S (lendAll S [[1]] args) := evCall0 fns50 rfl rfl rfl args S
theorem callsz50 (args : List AV) (S : St) : evCallFz (T.at true) (evFL T) 50 args S = lendZ (evFL T 50) S [[1]] (lendAll S [[1]] args) := evCallFz0 fns50 rfl rfl rfl args S
attribute [go_sem] call50 callz50 calls50 callsz50
noncomputable def X50_1 (a0 : (List (List (List Int)))) (o : (List (List (List Int)))) : Ex × Fr × St :=
  (.exit 0, frOf 23 (upd anyF 3 (.sl 0 0 o.length)), [some ⟨.arr, 1, o.map (encLLInt .own)⟩])
noncomputable def E50_1 (a0 : (List (List (List Int)))) (s : (Int × List (List (List Int)))) : Fr × St := (frOf 23 (upd (upd (upd anyF 0 (.ts .imm 1 (a0.map (encLLInt .imm)))) 3 (.sl 0 0 s.2.length)) 4 (.int .i64 s.1)), [some ⟨.arr, 1, s.2.map (encLLInt .own)⟩])
theorem b50_1 (a0 : (List (List (List Int)))) (s : (Int × List (List (List Int)))) (o : Ctl (Int × List (List (List Int))) (List (List (List Int)))) (h : m50_1b a0 s = some o) : evCL T 0 k50_1b (E50_1 a0 s).1 (E50_1 a0 s).2 = some (ctlX (E50_1 a0) (X50_1 a0) o) := by
  unfold m50_1b at h
  obtain ⟨s17, s18⟩ := s
  replace h := sel2_some h
  try simp -implicitDefEqProofs only [go_sem, Nat.reduceLT, Nat.reduceAdd, Nat.reduceSub, Nat.reduceMul, Nat.reduceEqDiff, Nat.reduceBEq, Nat.reduceLeDiff, Int.reduceToNat, Int.reduceLT, Int.reduceLE, Int.reduceEq, reduceCtorEq, ↓reduceIte, E50_1, X50_1, k50_1b]
  cases b19 : (ltI s17 (↑a0.length : Int) : Bool)
  · replace h := br_f b19 h
    cases h
    simp -implicitDefEqProofs only [go_sem, Nat.reduceLT, Nat.reduceAdd, Nat.reduceSub, Nat.reduceMul, Nat.reduceEqDiff, Nat.reduceBEq, Nat.reduceLeDiff, Int.reduceToNat, Int.reduceLT, Int.reduceLE, Int.reduceEq, reduceCtorEq, ↓reduceIte, E50_1, X50_1, k50_1b, b19]
  · replace h := br_t b19 h
    obtain ⟨x20, q21, h⟩ := bnd_some h
    obtain ⟨g22, g23, g24⟩ := idx_row (encLLInt .imm) q21
    try simp -implicitDefEqProofs only [go_sem, Nat.reduceLT, Nat.reduceAdd, Nat.reduceSub, Nat.reduceMul, Nat.reduceEqDiff, Nat.reduceBEq, Nat.reduceLeDiff, Int.reduceToNat, Int.reduceLT, Int.reduceLE, Int.reduceEq, reduceCtorEq, ↓reduceIte] at g23
    try simp -implicitDefEqProofs only [go_sem, Nat.reduceLT, Nat.reduceAdd, Nat.reduceSub, Nat.reduceMul, Nat.reduceEqDiff, Nat.reduceBEq, Nat.reduceLeDiff, Int.reduceToNat, Int.reduceLT, Int.reduceLE, Int.reduceEq, reduceCtorEq, ↓reduceIte] at g24
    obtain ⟨r27, q25, h⟩ := bnd_some h
    have w26 := e88 x20 r27 q25
    try simp -implicitDefEqProofs only [go_sem, Nat.reduceLT, Nat.reduceAdd, Nat.reduceSub, Nat.reduceMul, Nat.reduceEqDiff, Nat.reduceBEq, Nat.reduceLeDiff, Int.reduceToNat, Int.reduceLT, Int.reduceLE, Int.reduceEq, reduceCtorEq, ↓reduceIte] at w26
    obtain ⟨x28, q29, h⟩ := bnd_some h
    obtain ⟨g30, g31, g32⟩ := idx_row (encLLInt .own) q29
    try simp -implicitDefEqProofs only [go_sem, Nat.reduceLT, Nat.reduceAdd, Nat.reduceSub, Nat.reduceMul, Nat.reduceEqDiff, Nat.reduceBEq, Nat.reduceLeDiff, Int.reduceToNat, Int.reduceLT, Int.reduceLE, Int.reduceEq, reduceCtorEq, ↓reduceIte] at g31
    try simp -implicitDefEqProofs only [go_sem, Nat.reduceLT, Nat.reduceAdd, Nat.reduceSub, Nat.reduceMul, Nat.reduceEqDiff, Nat.reduceBEq, Nat.reduceLeDiff, Int.reduceToNat, Int.reduceLT, Int.reduceLE, Int.reduceEq, reduceCtorEq, ↓reduceIte] at g32
    cases h
    simp -implicitDefEqProofs only [go_sem, Nat.reduceLT, Nat.reduceAdd, Nat.reduceSub, Nat.reduceMul, Nat.reduceEqDiff, Nat.reduceBEq, Nat.reduceLeDiff, Int.reduceToNat, Int.reduceLT, Int.reduceLE, Int.reduceEq, reduceCtorEq, ↓reduceIte, E50_1, X50_1, k50_1b, b19, g22, g23, g24, w26, g30, g31, g32]
theorem e50_1 (a0 : (List (List (List Int)))) (s : (Int × List (List (List Int)))) (o : (List (List (List Int)))) (h : loopP (m50_1b a0) s = some o) : evCL T 0 (.loop k50_1b) (E50_1 a0 s).1 (E50_1 a0 s).2 = some (X50_1 a0 o) :=
  loop_walk (E := E50_1 a0) (X := X50_1 a0) (by intro b; (simp only [X50_1]; nofun)) (b50_1 a0) s o h
theorem e50 (a0 : (List (List (List Int)))) (r : (List (List (List Int)))) (h : m50 a0 = some r) : evFL T 50 [.ts .imm 1 (a0.map (encLLInt .imm))] [] = some (.sl 0 0 r.length, [some ⟨.arr, 1, r.map (encLLInt .own)⟩]) := by
  unfold m50 at h
  rw [evFL_at fn50 (Nat.le_of_ble_eq_true rfl) rfl (.inr rfl) ⟨rfl, rfl⟩]
  obtain ⟨g1, h⟩ := ck_some h
  try simp -implicitDefEqProofs only [go_sem, Nat.reduceLT, Nat.reduceAdd, Nat.reduceSub, Nat.reduceMul, Nat.reduceEqDiff, Nat.reduceBEq, Nat.reduceLeDiff, Int.reduceToNat, Int.reduceLT, Int.reduceLE, Int.reduceEq, reduceCtorEq, ↓reduceIte] at g1
  obtain ⟨v35, q33, h⟩ := bnd_some h
  have w34 := e50_1 a0 (0, List.replicate a0.length []) v35 q33
  simp only [E50_1, X50_1] at w34
  try simp -implicitDefEqProofs only [go_sem, Nat.reduceLT, Nat.reduceAdd, Nat.reduceSub, Nat.reduceMul, Nat.reduceEqDiff, Nat.reduceBEq, Nat.reduceLeDiff, Int.reduceToNat, Int.reduceLT, Int.reduceLE, Int.reduceEq, reduceCtorEq, ↓reduceIte] at w34
  cases h
  simp -implicitDefEqProofs only [go_sem, Nat.reduceLT, Nat.reduceAdd, Nat.reduceSub, Nat.reduceMul, Nat.reduceEqDiff, Nat.reduceBEq, Nat.reduceLeDiff, Int.reduceToNat, Int.reduceLT, Int.reduceLE, Int.reduceEq, reduceCtorEq, ↓reduceIte, i50, c50, g1, w34]
-- f15 laws.toSpp
theorem call15 (args : List AV) (S : St) : evCall T (evFL T) 15 args S = lendC (evFL T 15) S (lendAll S [[1]] args) := evCall0 fn15 rfl rfl rfl args S
theorem callz15 (args : List AV) (S : St) : evCallFz T (evFL T) 15 args S = lendZ (evFL T 15) S [[1]] (lendAll S [[1]] args) := evCallFz0 fn15 rfl rfl rfl args S
theorem calls15 (args : List AV) (S : St) : evCall (T.at true) (evFL T) 15 args S = lendC (evFL T 15) S (lendAll S [[1]] args) := evCall0 fns15 rfl rfl rfl args S
theorem callsz15 (args : List AV) (S : St) : evCallFz (T.at true) (evFL T) 15 args S = lendZ (evFL T 15) S [[1]] (lendAll S [[1]] args) := evCallFz0 fns15 rfl rfl rfl args S
attribute [go_sem] call15 callz15 calls15 callsz15
theorem e15 (a0 : Spp) (r : Spp) (h : m15 a0 = some r) : evFL T 15 [.agg [.ts .imm 1 (a0.ranked.map (encLLInt .imm))]] [] = some (.agg [.sl 0 0 r.ranked.length], [some ⟨.arr, 1, r.ranked.map (encLLInt .own)⟩]) := by
  unfold m15 at h
  rw [evFL_at fn15 (Nat.le_of_ble_eq_true rfl) rfl (.inr rfl) ⟨rfl, rfl⟩]
  obtain ⟨r3, q1, h⟩ := bnd_some h
  have w2 := e50 a0.ranked r3 q1
  try simp -implicitDefEqProofs only [go_sem, Nat.reduceLT, Nat.reduceAdd, Nat.reduceSub, Nat.reduceMul, Nat.reduceEqDiff, Nat.reduceBEq, Nat.reduceLeDiff, Int.reduceToNat, Int.reduceLT, Int.reduceLE, Int.reduceEq, reduceCtorEq, ↓reduceIte] at w2
  cases h
  simp -implicitDefEqProofs only [go_sem, Nat.reduceLT, Nat.reduceAdd, Nat.reduceSub, Nat.reduceMul, Nat.reduceEqDiff, Nat.reduceBEq, Nat.reduceLeDiff, Int.reduceToNat, Int.reduceLT, Int.reduceLE, Int.reduceEq, reduceCtorEq, ↓reduceIte, i15, c15, w2]
-- f47 spec.l1In
theorem call47 (args : List AV) (S : St) : evCall T (evFL T) 47 args S = lendC (evFL T 47) S (lendAll S [[0], [0], [0]] args) := evCall0 fn47 rfl rfl rfl args S
theorem callz47 (args : List AV) (S : St) : evCallFz T (evFL T) 47 args S = lendZ (evFL T 47) S [[0]] (lendAll S [[0], [0], [0]] args) := evCallFz0 fn47 rfl rfl rfl args S
theorem calls47 (args : List AV) (S : St) : evCall (T.at true) (evFL T) 47 args S = lendC (evFL T 47) S (lendAll S [[0], [0], [0]] args) := evCall0 fns47 rfl rfl rfl args S
theorem callsz47 (args : List AV) (S : St) : evCallFz (T.at true) (evFL T) 47 args S = lendZ (evFL T 47) S [[0]] (lendAll S [[0], [0], [0]] args) := evCallFz0 fns47 rfl rfl rfl args S
attribute [go_sem] call47 callz47 calls47 callsz47
noncomputable def X47_1 (a0 : Int) (a1 : Int) (a2 : Int) (o : Bool) : Ex × Fr × St :=
  (.normal, frOf 15 (upd anyF 6 (.bool o)), [])
theorem e47_1 (a0 : Int) (a1 : Int) (a2 : Int) (o : Bool) (h : m47_1 a0 a1 a2 = some o) : evCL T 0 k47_1 (frOf 15 (upd (upd (upd anyF 0 (.int .i64 a0)) 1 (.int .i64 a1)) 2 (.int .i64 a2))) [] = some (X47_1 a0 a1 a2 o) := by
  unfold m47_1 at h
  try simp -implicitDefEqProofs only [go_sem, Nat.reduceLT, Nat.reduceAdd, Nat.reduceSub, Nat.reduceMul, Nat.reduceEqDiff, Nat.reduceBEq, Nat.reduceLeDiff, Int.reduceToNat, Int.reduceLT, Int.reduceLE, Int.reduceEq, reduceCtorEq, ↓reduceIte, X47_1, k47_1]
  cases b1 : (leI a1 a0 : Bool)
  · replace h := br_f b1 h
    cases h
    simp -implicitDefEqProofs only [go_sem, Nat.reduceLT, Nat.reduceAdd, Nat.reduceSub, Nat.reduceMul, Nat.reduceEqDiff, Nat.reduceBEq, Nat.reduceLeDiff, Int.reduceToNat, Int.reduceLT, Int.reduceLE, Int.reduceEq, reduceCtorEq, ↓reduceIte, X47_1, k47_1, b1]
  · replace h := br_t b1 h
    cases h
    simp -implicitDefEqProofs only [go_sem, Nat.reduceLT, Nat.reduceAdd, Nat.reduceSub, Nat.reduceMul, Nat.reduceEqDiff, Nat.reduceBEq, Nat.reduceLeDiff, Int.reduceToNat, Int.reduceLT, Int.reduceLE, Int.reduceEq, reduceCtorEq, ↓reduceIte, X47_1, k47_1, b1]
theorem e47 (a0 : Int) (a1 : Int) (a2 : Int) (r : Bool) (h : m47 a0 a1 a2 = some r) : evFL T 47 [.int .i64 a0, .int .i64 a1, .int .i64 a2] [] = some (.bool r, []) := by
  unfold m47 at h
  rw [evFL_at fn47 (Nat.le_of_ble_eq_true rfl) rfl (.inr rfl) ⟨rfl, rfl⟩]
  obtain ⟨v4, q2, h⟩ := bnd_some h
  have w3 := e47_1 a0 a1 a2 v4 q2
  simp only [X47_1] at w3
  try simp -implicitDefEqProofs only [go_sem, Nat.reduceLT, Nat.reduceAdd, Nat.reduceSub, Nat.reduceMul, Nat.reduceEqDiff, Nat.reduceBEq, Nat.reduceLeDiff, Int.reduceToNat, Int.reduceLT, Int.reduceLE, Int.reduceEq, reduceCtorEq, ↓reduceIte] at w3
  cases h
  simp -implicitDefEqProofs only [go_sem, Nat.reduceLT, Nat.reduceAdd, Nat.reduceSub, Nat.reduceMul, Nat.reduceEqDiff, Nat.reduceBEq, Nat.reduceLeDiff, Int.reduceToNat, Int.reduceLT, Int.reduceLE, Int.reduceEq, reduceCtorEq, ↓reduceIte, i47, c47, w3]
-- f87 spec.l1Has
theorem call87 (args : List AV) (S : St) : evCall T (evFL T) 87 args S = lendC (evFL T 87) S (lendAll S [[1], [0]] args) := evCall0 fn87 rfl rfl rfl args S
theorem callz87 (args : List AV) (S : St) : evCallFz T (evFL T) 87 args S = lendZ (evFL T 87) S [[0]] (lendAll S [[1], [0]] args) := evCallFz0 fn87 rfl rfl rfl args S
theorem calls87 (args : List AV) (S : St) : evCall (T.at true) (evFL T) 87 args S = lendC (evFL T 87) S (lendAll S [[1], [0]] args) := evCall0 fns87 rfl rfl rfl args S
theorem callsz87 (args : List AV) (S : St) : evCallFz (T.at true) (evFL T) 87 args S = lendZ (evFL T 87) S [[0]] (lendAll S [[1], [0]] args) := evCallFz0 fns87 rfl rfl rfl args S
attribute [go_sem] call87 callz87 calls87 callsz87
noncomputable def X87_1 (a1 : Int) (a0 : (List Int)) (p1 : Int) (o : (Unit ⊕ Unit)) : Ex × Fr × St :=
  match o with
  | .inl o => (.exit 0, frOf 17 (anyF), [])
  | .inr o => (.ret, frOf 17 (upd anyF 4 (.bool true)), [])
noncomputable def E87_1 (a1 : Int) (a0 : (List Int)) (p1 : Int) (s : Int) : Fr × St := (frOf 17 (upd (upd (upd (upd anyF 1 (.int .i64 a1)) 7 (.ts .imm 1 (a0.map encInt))) 8 (.int .i64 p1)) 9 (.int .i64 s)), [])
theorem b87_1 (a1 : Int) (a0 : (List Int)) (p1 : Int) (s : Int) (o : Ctl Int (Unit ⊕ Unit)) (h : m87_1b a1 a0 p1 s = some o) : evCL T 0 k87_1b (E87_1 a1 a0 p1 s).1 (E87_1 a1 a0 p1 s).2 = some (ctlX (E87_1 a1 a0 p1) (X87_1 a1 a0 p1) o) := by
  unfold m87_1b at h
  revert h
  generalize s = s9
  intro h
  try simp -implicitDefEqProofs only [go_sem, Nat.reduceLT, Nat.reduceAdd, Nat.reduceSub, Nat.reduceMul, Nat.reduceEqDiff, Nat.reduceBEq, Nat.reduceLeDiff, Int.reduceToNat, Int.reduceLT, Int.reduceLE, Int.reduceEq, reduceCtorEq, ↓reduceIte, E87_1, X87_1, k87_1b]
  cases b10 : (ltI s9 p1 : Bool)
  · replace h := br_f b10 h
    cases h
    simp -implicitDefEqProofs only [go_sem, Nat.reduceLT, Nat.reduceAdd, Nat.reduceSub, Nat.reduceMul, Nat.reduceEqDiff, Nat.reduceBEq, Nat.reduceLeDiff, Int.reduceToNat, Int.reduceLT, Int.reduceLE, Int.reduceEq, reduceCtorEq, ↓reduceIte, E87_1, X87_1, k87_1b, b10]
  · replace h := br_t b10 h
    obtain ⟨x11, q12, h⟩ := bnd_some h
    obtain ⟨g13, g14, g15⟩ := idx_row encInt q12
    try simp -implicitDefEqProofs only [go_sem, Nat.reduceLT, Nat.reduceAdd, Nat.reduceSub, Nat.reduceMul, Nat.reduceEqDiff, Nat.reduceBEq, Nat.reduceLeDiff, Int.reduceToNat, Int.reduceLT, Int.reduceLE, Int.reduceEq, reduceCtorEq, ↓reduceIte] at g14
    try simp -implicitDefEqProofs only [go_sem, Nat.reduceLT, Nat.reduceAdd, Nat.reduceSub, Nat.reduceMul, Nat.reduceEqDiff, Nat.reduceBEq, Nat.reduceLeDiff, Int.reduceToNat, Int.reduceLT, Int.reduceLE, Int.reduceEq, reduceCtorEq, ↓reduceIte] at g15
    try simp -implicitDefEqProofs only [go_sem, Nat.reduceLT, Nat.reduceAdd, Nat.reduceSub, Nat.reduceMul, Nat.reduceEqDiff, Nat.reduceBEq, Nat.reduceLeDiff, Int.reduceToNat, Int.reduceLT, Int.reduceLE, Int.reduceEq, reduceCtorEq, ↓reduceIte, E87_1, X87_1, k87_1b, b10, g13, g14, g15]
    cases b16 : (eqI x11 a1 : Bool)
    · replace h := br_f b16 h
      cases h
      simp -implicitDefEqProofs only [go_sem, Nat.reduceLT, Nat.reduceAdd, Nat.reduceSub, Nat.reduceMul, Nat.reduceEqDiff, Nat.reduceBEq, Nat.reduceLeDiff, Int.reduceToNat, Int.reduceLT, Int.reduceLE, Int.reduceEq, reduceCtorEq, ↓reduceIte, E87_1, X87_1, k87_1b, b10, g13, g14, g15, b16]
    · replace h := br_t b16 h
      cases h
      simp -implicitDefEqProofs only [go_sem, Nat.reduceLT, Nat.reduceAdd, Nat.reduceSub, Nat.reduceMul, Nat.reduceEqDiff, Nat.reduceBEq, Nat.reduceLeDiff, Int.reduceToNat, Int.reduceLT, Int.reduceLE, Int.reduceEq, reduceCtorEq, ↓reduceIte, E87_1, X87_1, k87_1b, b10, g13, g14, g15, b16]
theorem e87_1 (a1 : Int) (a0 : (List Int)) (p1 : Int) (s : Int) (o : (Unit ⊕ Unit)) (h : loopP (m87_1b a1 a0 p1) s = some o) : evCL T 0 (.loop k87_1b) (E87_1 a1 a0 p1 s).1 (E87_1 a1 a0 p1 s).2 = some (X87_1 a1 a0 p1 o) :=
  loop_walk (E := E87_1 a1 a0 p1) (X := X87_1 a1 a0 p1) (by intro b; rcases b with b | b <;> (simp only [X87_1]; nofun)) (b87_1 a1 a0 p1) s o h
theorem e87 (a0 : (List Int)) (a1 : Int) (r : Bool) (h : m87 a0 a1 = some r) : evFL T 87 [.ts .imm 1 (a0.map encInt), .int .i64 a1] [] = some (.bool r, []) := by
  unfold m87 at h
  rw [evFL_at fn87 (Nat.le_of_ble_eq_true rfl) rfl (.inr rfl) ⟨rfl, rfl⟩]
  try simp -implicitDefEqProofs only [go_sem, Nat.reduceLT, Nat.reduceAdd, Nat.reduceSub, Nat.reduceMul, Nat.reduceEqDiff, Nat.reduceBEq, Nat.reduceLeDiff, Int.reduceToNat, Int.reduceLT, Int.reduceLE, Int.reduceEq, reduceCtorEq, ↓reduceIte, i87, c87]
  obtain ⟨o, q17, h⟩ := bnd_some h
  rcases o with ⟨⟩ | ⟨⟩
  · replace h := selS_l h
    have w18 := e87_1 a1 a0 (↑a0.length : Int) 0 (.inl ()) q17
    simp only [E87_1, X87_1] at w18
    try simp -implicitDefEqProofs only [go_sem, Nat.reduceLT, Nat.reduceAdd, Nat.reduceSub, Nat.reduceMul, Nat.reduceEqDiff, Nat.reduceBEq, Nat.reduceLeDiff, Int.reduceToNat, Int.reduceLT, Int.reduceLE, Int.reduceEq, reduceCtorEq, ↓reduceIte] at w18
    cases h
    simp -implicitDefEqProofs only [go_sem, Nat.reduceLT, Nat.reduceAdd, Nat.reduceSub, Nat.reduceMul, Nat.reduceEqDiff, Nat.reduceBEq, Nat.reduceLeDiff, Int.reduceToNat, Int.reduceLT, Int.reduceLE, Int.reduceEq, reduceCtorEq, ↓reduceIte, i87, c87, w18]
  · replace h := selS_r h
    have w18 := e87_1 a1 a0 (↑a0.length : Int) 0 (.inr ()) q17
    simp only [E87_1, X87_1] at w18
    try simp -implicitDefEqProofs only [go_sem, Nat.reduceLT, Nat.reduceAdd, Nat.reduceSub, Nat.reduceMul, Nat.reduceEqDiff, Nat.reduceBEq, Nat.reduceLeDiff, Int.reduceToNat, Int.reduceLT, Int.reduceLE, Int.reduceEq, reduceCtorEq, ↓reduceIte] at w18
    cases h
    simp -implicitDefEqProofs only [go_sem, Nat.reduceLT, Nat.reduceAdd, Nat.reduceSub, Nat.reduceMul, Nat.reduceEqDiff, Nat.reduceBEq, Nat.reduceLeDiff, Int.reduceToNat, Int.reduceLT, Int.reduceLE, Int.reduceEq, reduceCtorEq, ↓reduceIte, i87, c87, w18]
-- f79 spec.l10Same
theorem call79 (args : List AV) (S : St) : evCall T (evFL T) 79 args S = lendC (evFL T 79) S (lendAll S [[1], [1]] args) := evCall0 fn79 rfl rfl rfl args S
theorem callz79 (args : List AV) (S : St) : evCallFz T (evFL T) 79 args S = lendZ (evFL T 79) S [[0]] (lendAll S [[1], [1]] args) := evCallFz0 fn79 rfl rfl rfl args S
theorem calls79 (args : List AV) (S : St) : evCall (T.at true) (evFL T) 79 args S = lendC (evFL T 79) S (lendAll S [[1], [1]] args) := evCall0 fns79 rfl rfl rfl args S
theorem callsz79 (args : List AV) (S : St) : evCallFz (T.at true) (evFL T) 79 args S = lendZ (evFL T 79) S [[0]] (lendAll S [[1], [1]] args) := evCallFz0 fns79 rfl rfl rfl args S
attribute [go_sem] call79 callz79 calls79 callsz79
noncomputable def X79_1 (a0 : (List Int)) (a1 : (List Int)) (p2 : Int) (o : (Unit ⊕ Unit)) : Ex × Fr × St :=
  match o with
  | .inl o => (.exit 0, frOf 26 (anyF), [])
  | .inr o => (.ret, frOf 26 (upd anyF 4 (.bool false)), [])
noncomputable def E79_1 (a0 : (List Int)) (a1 : (List Int)) (p2 : Int) (s : Int) : Fr × St := (frOf 26 (upd (upd (upd (upd anyF 0 (.ts .imm 1 (a0.map encInt))) 1 (.ts .imm 1 (a1.map encInt))) 12 (.int .i64 p2)) 13 (.int .i64 s)), [])
theorem b79_1 (a0 : (List Int)) (a1 : (List Int)) (p2 : Int) (s : Int) (o : Ctl Int (Unit ⊕ Unit)) (h : m79_1b a0 a1 p2 s = some o) : evCL T 0 k79_1b (E79_1 a0 a1 p2 s).1 (E79_1 a0 a1 p2 s).2 = some (ctlX (E79_1 a0 a1 p2) (X79_1 a0 a1 p2) o) := by
  unfold m79_1b at h
  revert h
  generalize s = s15
  intro h
  try simp -implicitDefEqProofs only [go_sem, Nat.reduceLT, Nat.reduceAdd, Nat.reduceSub, Nat.reduceMul, Nat.reduceEqDiff, Nat.reduceBEq, Nat.reduceLeDiff, Int.reduceToNat, Int.reduceLT, Int.reduceLE, Int.reduceEq, reduceCtorEq, ↓reduceIte, E79_1, X79_1, k79_1b]
  cases b16 : (ltI s15 p2 : Bool)
  · replace h := br_f b16 h
    cases h
    simp -implicitDefEqProofs only [go_sem, Nat.reduceLT, Nat.reduceAdd, Nat.reduceSub, Nat.reduceMul, Nat.reduceEqDiff, Nat.reduceBEq, Nat.reduceLeDiff, Int.reduceToNat, Int.reduceLT, Int.reduceLE, Int.reduceEq, reduceCtorEq, ↓reduceIte, E79_1, X79_1, k79_1b, b16]
  · replace h := br_t b16 h
    obtain ⟨x17, q18, h⟩ := bnd_some h
    obtain ⟨g19, g20, g21⟩ := idx_row encInt q18
    try simp -implicitDefEqProofs only [go_sem, Nat.reduceLT, Nat.reduceAdd, Nat.reduceSub, Nat.reduceMul, Nat.reduceEqDiff, Nat.reduceBEq, Nat.reduceLeDiff, Int.reduceToNat, Int.reduceLT, Int.reduceLE, Int.reduceEq, reduceCtorEq, ↓reduceIte] at g20
    try simp -implicitDefEqProofs only [go_sem, Nat.reduceLT, Nat.reduceAdd, Nat.reduceSub, Nat.reduceMul, Nat.reduceEqDiff, Nat.reduceBEq, Nat.reduceLeDiff, Int.reduceToNat, Int.reduceLT, Int.reduceLE, Int.reduceEq, reduceCtorEq, ↓reduceIte] at g21
    obtain ⟨x22, q23, h⟩ := bnd_some h
    obtain ⟨g24, g25, g26⟩ := idx_row encInt q23
    try simp -implicitDefEqProofs only [go_sem, Nat.reduceLT, Nat.reduceAdd, Nat.reduceSub, Nat.reduceMul, Nat.reduceEqDiff, Nat.reduceBEq, Nat.reduceLeDiff, Int.reduceToNat, Int.reduceLT, Int.reduceLE, Int.reduceEq, reduceCtorEq, ↓reduceIte] at g25
    try simp -implicitDefEqProofs only [go_sem, Nat.reduceLT, Nat.reduceAdd, Nat.reduceSub, Nat.reduceMul, Nat.reduceEqDiff, Nat.reduceBEq, Nat.reduceLeDiff, Int.reduceToNat, Int.reduceLT, Int.reduceLE, Int.reduceEq, reduceCtorEq, ↓reduceIte] at g26
    try simp -implicitDefEqProofs only [go_sem, Nat.reduceLT, Nat.reduceAdd, Nat.reduceSub, Nat.reduceMul, Nat.reduceEqDiff, Nat.reduceBEq, Nat.reduceLeDiff, Int.reduceToNat, Int.reduceLT, Int.reduceLE, Int.reduceEq, reduceCtorEq, ↓reduceIte, E79_1, X79_1, k79_1b, b16, g19, g20, g21, g24, g25, g26]
    cases b27 : (eqI x17 x22 : Bool)
    · replace h := br_f b27 h
      cases h
      simp -implicitDefEqProofs only [go_sem, Nat.reduceLT, Nat.reduceAdd, Nat.reduceSub, Nat.reduceMul, Nat.reduceEqDiff, Nat.reduceBEq, Nat.reduceLeDiff, Int.reduceToNat, Int.reduceLT, Int.reduceLE, Int.reduceEq, reduceCtorEq, ↓reduceIte, E79_1, X79_1, k79_1b, b16, g19, g20, g21, g24, g25, g26, b27]
    · replace h := br_t b27 h
      cases h
      simp -implicitDefEqProofs only [go_sem, Nat.reduceLT, Nat.reduceAdd, Nat.reduceSub, Nat.reduceMul, Nat.reduceEqDiff, Nat.reduceBEq, Nat.reduceLeDiff, Int.reduceToNat, Int.reduceLT, Int.reduceLE, Int.reduceEq, reduceCtorEq, ↓reduceIte, E79_1, X79_1, k79_1b, b16, g19, g20, g21, g24, g25, g26, b27]
theorem e79_1 (a0 : (List Int)) (a1 : (List Int)) (p2 : Int) (s : Int) (o : (Unit ⊕ Unit)) (h : loopP (m79_1b a0 a1 p2) s = some o) : evCL T 0 (.loop k79_1b) (E79_1 a0 a1 p2 s).1 (E79_1 a0 a1 p2 s).2 = some (X79_1 a0 a1 p2 o) :=
  loop_walk (E := E79_1 a0 a1 p2) (X := X79_1 a0 a1 p2) (by intro b; rcases b with b | b <;> (simp only [X79_1]; nofun)) (b79_1 a0 a1 p2) s o h
theorem e79 (a0 : (List Int)) (a1 : (List Int)) (r : Bool) (h : m79 a0 a1 = some r) : evFL T 79 [.ts .imm 1 (a0.map encInt), .ts .imm 1 (a1.map encInt)] [] = some (.bool r, []) := by
  unfold m79 at h
  rw [evFL_at fn79 (Nat.le_of_ble_eq_true rfl) rfl (.inr rfl) ⟨rfl, rfl⟩]
  try simp -implicitDefEqProofs only [go_sem, Nat.reduceLT, Nat.reduceAdd, Nat.reduceSub, Nat.reduceMul, Nat.reduceEqDiff, Nat.reduceBEq, Nat.reduceLeDiff, Int.reduceToNat, Int.reduceLT, Int.reduceLE, Int.reduceEq, reduceCtorEq, ↓reduceIte, i79, c79]
  cases b1 : (eqI (↑a0.length : Int) (↑a1.length : Int) : Bool)
  · replace h := br_f b1 h
    cases h
    simp -implicitDefEqProofs only [go_sem, Nat.reduceLT, Nat.reduceAdd, Nat.reduceSub, Nat.reduceMul, Nat.reduceEqDiff, Nat.reduceBEq, Nat.reduceLeDiff, Int.reduceToNat, Int.reduceLT, Int.reduceLE, Int.reduceEq, reduceCtorEq, ↓reduceIte, i79, c79, b1]
  · replace h := br_t b1 h
    try simp -implicitDefEqProofs only [go_sem, Nat.reduceLT, Nat.reduceAdd, Nat.reduceSub, Nat.reduceMul, Nat.reduceEqDiff, Nat.reduceBEq, Nat.reduceLeDiff, Int.reduceToNat, Int.reduceLT, Int.reduceLE, Int.reduceEq, reduceCtorEq, ↓reduceIte, i79, c79, b1]
    obtain ⟨o, q28, h⟩ := bnd_some h
    rcases o with ⟨⟩ | ⟨⟩
    · replace h := selS_l h
      have w29 := e79_1 a0 a1 (↑a0.length : Int) 0 (.inl ()) q28
      simp only [E79_1, X79_1] at w29
      try simp -implicitDefEqProofs only [go_sem, Nat.reduceLT, Nat.reduceAdd, Nat.reduceSub, Nat.reduceMul, Nat.reduceEqDiff, Nat.reduceBEq, Nat.reduceLeDiff, Int.reduceToNat, Int.reduceLT, Int.reduceLE, Int.reduceEq, reduceCtorEq, ↓reduceIte] at w29
      cases h
      simp -implicitDefEqProofs only [go_sem, Nat.reduceLT, Nat.reduceAdd, Nat.reduceSub, Nat.reduceMul, Nat.reduceEqDiff, Nat.reduceBEq, Nat.reduceLeDiff, Int.reduceToNat, Int.reduceLT, Int.reduceLE, Int.reduceEq, reduceCtorEq, ↓reduceIte, i79, c79, b1, w29]
    · replace h := selS_r h
      have w29 := e79_1 a0 a1 (↑a0.length : Int) 0 (.inr ()) q28
      simp only [E79_1, X79_1] at w29
      try simp -implicitDefEqProofs only [go_sem, Nat.reduceLT, Nat.reduceAdd, Nat.reduceSub, Nat.reduceMul, Nat.reduceEqDiff, Nat.reduceBEq, Nat.reduceLeDiff, Int.reduceToNat, Int.reduceLT, Int.reduceLE, Int.reduceEq, reduceCtorEq, ↓reduceIte] at w29
      cases h
      simp -implicitDefEqProofs only [go_sem, Nat.reduceLT, Nat.reduceAdd, Nat.reduceSub, Nat.reduceMul, Nat.reduceEqDiff, Nat.reduceBEq, Nat.reduceLeDiff, Int.reduceToNat, Int.reduceLT, Int.reduceLE, Int.reduceEq, reduceCtorEq, ↓reduceIte, i79, c79, b1, w29]
-- f49 spec.l10At
theorem call49 (args : List AV) (S : St) : evCall T (evFL T) 49 args S = lendC (evFL T 49) S (lendAll S [[1], [0], [1]] args) := evCall0 fn49 rfl rfl rfl args S
theorem callz49 (args : List AV) (S : St) : evCallFz T (evFL T) 49 args S = lendZ (evFL T 49) S [[0]] (lendAll S [[1], [0], [1]] args) := evCallFz0 fn49 rfl rfl rfl args S
theorem calls49 (args : List AV) (S : St) : evCall (T.at true) (evFL T) 49 args S = lendC (evFL T 49) S (lendAll S [[1], [0], [1]] args) := evCall0 fns49 rfl rfl rfl args S
theorem callsz49 (args : List AV) (S : St) : evCallFz (T.at true) (evFL T) 49 args S = lendZ (evFL T 49) S [[0]] (lendAll S [[1], [0], [1]] args) := evCallFz0 fns49 rfl rfl rfl args S
attribute [go_sem] call49 callz49 calls49 callsz49
noncomputable def X49_1 (a2 : (List Int)) (x1 : (List (List Int))) (p6 : Int) (o : (Unit ⊕ Int)) : Ex × Fr × St :=
  match o with
  | .inl o => (.exit 0, frOf 26 (anyF), [])
  | .inr o => (.ret, frOf 26 (upd anyF 6 (.int .i64 o)), [])
noncomputable def E49_1 (a2 : (List Int)) (x1 : (List (List Int))) (p6 : Int) (s : Int) : Fr × St := (frOf 26 (upd (upd (upd (upd anyF 2 (.ts .imm 1 (a2.map encInt))) 14 (.ts .imm 1 (x1.map (encLInt .imm)))) 15 (.int .i64 p6)) 16 (.int .i64 s)), [])
theorem b49_1 (a2 : (List Int)) (x1 : (List (List Int))) (p6 : Int) (s : Int) (o : Ctl Int (Unit ⊕ Int)) (h : m49_1b a2 x1 p6 s = some o) : evCL T 0 k49_1b (E49_1 a2 x1 p6 s).1 (E49_1 a2 x1 p6 s).2 = some (ctlX (E49_1 a2 x1 p6) (X49_1 a2 x1 p6) o) := by
  unfold m49_1b at h
  revert h
  generalize s = s17
  intro h
  try simp -implicitDefEqProofs only [go_sem, Nat.reduceLT, Nat.reduceAdd, Nat.reduceSub, Nat.reduceMul, Nat.reduceEqDiff, Nat.reduceBEq, Nat.reduceLeDiff, Int.reduceToNat, Int.reduceLT, Int.reduceLE, Int.reduceEq, reduceCtorEq, ↓reduceIte, E49_1, X49_1, k49_1b]
  cases b18 : (ltI s17 p6 : Bool)
  · replace h := br_f b18 h
    cases h
    simp -implicitDefEqProofs only [go_sem, Nat.reduceLT, Nat.reduceAdd, Nat.reduceSub, Nat.reduceMul, Nat.reduceEqDiff, Nat.reduceBEq, Nat.reduceLeDiff, Int.reduceToNat, Int.reduceLT, Int.reduceLE, Int.reduceEq, reduceCtorEq, ↓reduceIte, E49_1, X49_1, k49_1b, b18]
  · replace h := br_t b18 h
    obtain ⟨x19, q20, h⟩ := bnd_some h
    obtain ⟨g21, g22, g23⟩ := idx_row (encLInt .imm) q20
    try simp -implicitDefEqProofs only [go_sem, Nat.reduceLT, Nat.reduceAdd, Nat.reduceSub, Nat.reduceMul, Nat.reduceEqDiff, Nat.reduceBEq, Nat.reduceLeDiff, Int.reduceToNat, Int.reduceLT, Int.reduceLE, Int.reduceEq, reduceCtorEq, ↓reduceIte] at g22
    try simp -implicitDefEqProofs only [go_sem, Nat.reduceLT, Nat.reduceAdd, Nat.reduceSub, Nat.reduceMul, Nat.reduceEqDiff, Nat.reduceBEq, Nat.reduceLeDiff, Int.reduceToNat, Int.reduceLT, Int.reduceLE, Int.reduceEq, reduceCtorEq, ↓reduceIte] at g23
    obtain ⟨r26, q24, h⟩ := bnd_some h
    have w25 := e79 x19 a2 r26 q24
    try simp -implicitDefEqProofs only [go_sem, Nat.reduceLT, Nat.reduceAdd, Nat.reduceSub, Nat.reduceMul, Nat.reduceEqDiff, Nat.reduceBEq, Nat.reduceLeDiff, Int.reduceToNat, Int.reduceLT, Int.reduceLE, Int.reduceEq, reduceCtorEq, ↓reduceIte] at w25
    try simp -implicitDefEqProofs only [go_sem, Nat.reduceLT, Nat.reduceAdd, Nat.reduceSub, Nat.reduceMul, Nat.reduceEqDiff, Nat.reduceBEq, Nat.reduceLeDiff, Int.reduceToNat, Int.reduceLT, Int.reduceLE, Int.reduceEq, reduceCtorEq, ↓reduceIte, E49_1, X49_1, k49_1b, b18, g21, g22, g23, w25]
    cases b27 : (r26 : Bool)
    · replace h := br_f b27 h
      cases h
      simp -implicitDefEqProofs only [go_sem, Nat.reduceLT, Nat.reduceAdd, Nat.reduceSub, Nat.reduceMul, Nat.reduceEqDiff, Nat.reduceBEq, Nat.reduceLeDiff, Int.reduceToNat, Int.reduceLT, Int.reduceLE, Int.reduceEq, reduceCtorEq, ↓reduceIte, E49_1, X49_1, k49_1b, b18, g21, g22, g23, w25, b27]
    · replace h := br_t b27 h
      cases h
      simp -implicitDefEqProofs only [go_sem, Nat.reduceLT, Nat.reduceAdd, Nat.reduceSub, Nat.reduceMul, Nat.reduceEqDiff, Nat.reduceBEq, Nat.reduceLeDiff, Int.reduceToNat, Int.reduceLT, Int.reduceLE, Int.reduceEq, reduceCtorEq, ↓reduceIte, E49_1, X49_1, k49_1b, b18, g21, g22, g23, w25, b27]
theorem e49_1 (a2 : (List Int)) (x1 : (List (List Int))) (p6 : Int) (s : Int) (o : (Unit ⊕ Int)) (h : loopP (m49_1b a2 x1 p6) s = some o) : evCL T 0 (.loop k49_1b) (E49_1 a2 x1 p6 s).1 (E49_1 a2 x1 p6 s).2 = some (X49_1 a2 x1 p6 o) :=
  loop_walk (E := E49_1 a2 x1 p6) (X := X49_1 a2 x1 p6) (by intro b; rcases b with b | b <;> (simp only [X49_1]; nofun)) (b49_1 a2 x1 p6) s o h
theorem e49 (a0 : Spp) (a1 : Int) (a2 : (List Int)) (r : Int) (h : m49 a0 a1 a2 = some r) : evFL T 49 [.agg [.ts .imm 1 (a0.ranked.map (encLLInt .imm))], .int .i64 a1, .ts .imm 1 (a2.map encInt)] [] = some (.int .i64 r, []) := by
  unfold m49 at h
  rw [evFL_at fn49 (Nat.le_of_ble_eq_true rfl) rfl (.inr rfl) ⟨rfl, rfl⟩]
  obtain ⟨x1, q2, h⟩ := bnd_some h
  obtain ⟨g3, g4, g5⟩ := idx_row (encLLInt .imm) q2
  try simp -implicitDefEqProofs only [go_sem, Nat.reduceLT, Nat.reduceAdd, Nat.reduceSub, Nat.reduceMul, Nat.reduceEqDiff, Nat.reduceBEq, Nat.reduceLeDiff, Int.reduceToNat, Int.reduceLT, Int.reduceLE, Int.reduceEq, reduceCtorEq, ↓reduceIte] at g4
  try simp -implicitDefEqProofs only [go_sem, Nat.reduceLT, Nat.reduceAdd, Nat.reduceSub, Nat.reduceMul, Nat.reduceEqDiff, Nat.reduceBEq, Nat.reduceLeDiff, Int.reduceToNat, Int.reduceLT, Int.reduceLE, Int.reduceEq, reduceCtorEq, ↓reduceIte] at g5
  try simp -implicitDefEqProofs only [go_sem, Nat.reduceLT, Nat.reduceAdd, Nat.reduceSub, Nat.reduceMul, Nat.reduceEqDiff, Nat.reduceBEq, Nat.reduceLeDiff, Int.reduceToNat, Int.reduceLT, Int.reduceLE, Int.reduceEq, reduceCtorEq, ↓reduceIte, i49, c49, g3, g4, g5]
  obtain ⟨o, q28, h⟩ := bnd_some h
  rcases o with ⟨⟩ | v30
  · replace h := selS_l h
    have w29 := e49_1 a2 x1 (↑x1.length : Int) 0 (.inl ()) q28
    simp only [E49_1, X49_1] at w29
    try simp -implicitDefEqProofs only [go_sem, Nat.reduceLT, Nat.reduceAdd, Nat.reduceSub, Nat.reduceMul, Nat.reduceEqDiff, Nat.reduceBEq, Nat.reduceLeDiff, Int.reduceToNat, Int.reduceLT, Int.reduceLE, Int.reduceEq, reduceCtorEq, ↓reduceIte] at w29
    cases h
    simp -implicitDefEqProofs only [go_sem, Nat.reduceLT, Nat.reduceAdd, Nat.reduceSub, Nat.reduceMul, Nat.reduceEqDiff, Nat.reduceBEq, Nat.reduceLeDiff, Int.reduceToNat, Int.reduceLT, Int.reduceLE, Int.reduceEq, reduceCtorEq, ↓reduceIte, i49, c49, g3, g4, g5, w29]
  · replace h := selS_r h
    have w29 := e49_1 a2 x1 (↑x1.length : Int) 0 (.inr v30) q28
    simp only [E49_1, X49_1] at w29
    try simp -implicitDefEqProofs only [go_sem, Nat.reduceLT, Nat.reduceAdd, Nat.reduceSub, Nat.reduceMul, Nat.reduceEqDiff, Nat.reduceBEq, Nat.reduceLeDiff, Int.reduceToNat, Int.reduceLT, Int.reduceLE, Int.reduceEq, reduceCtorEq, ↓reduceIte] at w29
    cases h
    simp -implicitDefEqProofs only [go_sem, Nat.reduceLT, Nat.reduceAdd, Nat.reduceSub, Nat.reduceMul, Nat.reduceEqDiff, Nat.reduceBEq, Nat.reduceLeDiff, Int.reduceToNat, Int.reduceLT, Int.reduceLE, Int.reduceEq, reduceCtorEq, ↓reduceIte, i49, c49, g3, g4, g5, w29]
-- f48 spec.l10Path
theorem call48 (args : List AV) (S : St) : evCall T (evFL T) 48 args S = lendC (evFL T 48) S (lendAll S [[1], [0], [1]] args) := evCall0 fn48 rfl rfl rfl args S
theorem callz48 (args : List AV) (S : St) : evCallFz T (evFL T) 48 args S = lendZ (evFL T 48) S [[0]] (lendAll S [[1], [0], [1]] args) := evCallFz0 fn48 rfl rfl rfl args S
theorem calls48 (args : List AV) (S : St) : evCall (T.at true) (evFL T) 48 args S = lendC (evFL T 48) S (lendAll S [[1], [0], [1]] args) := evCall0 fns48 rfl rfl rfl args S
theorem callsz48 (args : List AV) (S : St) : evCallFz (T.at true) (evFL T) 48 args S = lendZ (evFL T 48) S [[0]] (lendAll S [[1], [0], [1]] args) := evCallFz0 fns48 rfl rfl rfl args S
attribute [go_sem] call48 callz48 calls48 callsz48
noncomputable def X48_1 (a1 : Int) (a2 : (List Int)) (p1 : Int) (a0 : Spp) (o : Bool) : Ex × Fr × St :=
  (.normal, frOf 78 (upd (upd (upd (upd anyF 2 (.ts .imm 1 (a2.map encInt))) 3 (.ptr 0 0 0)) 7 (.int .i64 p1)) 31 (.bool o)), [some ⟨.box, 1, [[.ts .imm 1 (a0.ranked.map (encLLInt .imm))]]⟩])
theorem e48_1 (a1 : Int) (a2 : (List Int)) (p1 : Int) (a0 : Spp) (o : Bool) (h : m48_1 a1 a2 = some o) : evCL T 0 k48_1 (frOf 78 (upd (upd (upd (upd anyF 1 (.int .i64 a1)) 2 (.ts .imm 1 (a2.map encInt))) 3 (.ptr 0 0 0)) 7 (.int .i64 p1))) [some ⟨.box, 1, [[.ts .imm 1 (a0.ranked.map (encLLInt .imm))]]⟩] = some (X48_1 a1 a2 p1 a0 o) := by
  unfold m48_1 at h
  try simp -implicitDefEqProofs only [go_sem, Nat.reduceLT, Nat.reduceAdd, Nat.reduceSub, Nat.reduceMul, Nat.reduceEqDiff, Nat.reduceBEq, Nat.reduceLeDiff, Int.reduceToNat, Int.reduceLT, Int.reduceLE, Int.reduceEq, reduceCtorEq, ↓reduceIte, X48_1, k48_1]
  cases b2 : (ltI (↑a2.length : Int) 2 : Bool)
  · replace h := br_f b2 h
    obtain ⟨x3, q4, h⟩ := bnd_some h
    obtain ⟨g5, g6, g7⟩ := idx_row encInt q4
    try simp -implicitDefEqProofs only [go_sem, Nat.reduceLT, Nat.reduceAdd, Nat.reduceSub, Nat.reduceMul, Nat.reduceEqDiff, Nat.reduceBEq, Nat.reduceLeDiff, Int.reduceToNat, Int.reduceLT, Int.reduceLE, Int.reduceEq, reduceCtorEq, ↓reduceIte] at g6
    try simp -implicitDefEqProofs only [go_sem, Nat.reduceLT, Nat.reduceAdd, Nat.reduceSub, Nat.reduceMul, Nat.reduceEqDiff, Nat.reduceBEq, Nat.reduceLeDiff, Int.reduceToNat, Int.reduceLT, Int.reduceLE, Int.reduceEq, reduceCtorEq, ↓reduceIte] at g7
    try simp -implicitDefEqProofs only [go_sem, Nat.reduceLT, Nat.reduceAdd, Nat.reduceSub, Nat.reduceMul, Nat.reduceEqDiff, Nat.reduceBEq, Nat.reduceLeDiff, Int.reduceToNat, Int.reduceLT, Int.reduceLE, Int.reduceEq, reduceCtorEq, ↓reduceIte, X48_1, k48_1, b2, g5, g6, g7]
    cases b8 : (eqI x3 a1 : Bool)
    · replace h := br_f b8 h
      cases h
      simp -implicitDefEqProofs only [go_sem, Nat.reduceLT, Nat.reduceAdd, Nat.reduceSub, Nat.reduceMul, Nat.reduceEqDiff, Nat.reduceBEq, Nat.reduceLeDiff, Int.reduceToNat, Int.reduceLT, Int.reduceLE, Int.reduceEq, reduceCtorEq, ↓reduceIte, X48_1, k48_1, b2, g5, g6, g7, b8]
    · replace h := br_t b8 h
      obtain ⟨x9, q10, h⟩ := bnd_some h
      obtain ⟨g11, g12, g13⟩ := idx_row encInt q10
      try simp -implicitDefEqProofs only [go_sem, Nat.reduceLT, Nat.reduceAdd, Nat.reduceSub, Nat.reduceMul, Nat.reduceEqDiff, Nat.reduceBEq, Nat.reduceLeDiff, Int.reduceToNat, Int.reduceLT, Int.reduceLE, Int.reduceEq, reduceCtorEq, ↓reduceIte] at g12
      try simp -implicitDefEqProofs only [go_sem, Nat.reduceLT, Nat.reduceAdd, Nat.reduceSub, Nat.reduceMul, Nat.reduceEqDiff, Nat.reduceBEq, Nat.reduceLeDiff, Int.reduceToNat, Int.reduceLT, Int.reduceLE, Int.reduceEq, reduceCtorEq, ↓reduceIte] at g13
      cases h
      simp -implicitDefEqProofs only [go_sem, Nat.reduceLT, Nat.reduceAdd, Nat.reduceSub, Nat.reduceMul, Nat.reduceEqDiff, Nat.reduceBEq, Nat.reduceLeDiff, Int.reduceToNat, Int.reduceLT, Int.reduceLE, Int.reduceEq, reduceCtorEq, ↓reduceIte, X48_1, k48_1, b2, g5, g6, g7, b8, g11, g12, g13]
  · replace h := br_t b2 h
    cases h
    simp -implicitDefEqProofs only [go_sem, Nat.reduceLT, Nat.reduceAdd, Nat.reduceSub, Nat.reduceMul, Nat.reduceEqDiff, Nat.reduceBEq, Nat.reduceLeDiff, Int.reduceToNat, Int.reduceLT, Int.reduceLE, Int.reduceEq, reduceCtorEq, ↓reduceIte, X48_1, k48_1, b2]
noncomputable def X48_4 (a2 : (List Int)) (p18 : Int) (s38 : Int) (x40 : Int) (p19 : Int) (a0 : Spp) (o : Bool) : Ex × Fr × St :=
  (.normal, frOf 78 (upd (upd (upd (upd (upd (upd (upd anyF 2 (.ts .imm 1 (a2.map encInt))) 3 (.ptr 0 0 0)) 7 (.int .i64 p18)) 32 (.ts .imm 1 (a2.map encInt))) 33 (.int .i64 p19)) 34 (.int .i64 s38)) 63 (.bool o)), [some ⟨.box, 1, [[.ts .imm 1 (a0.ranked.map (encLLInt .imm))]]⟩])
theorem e48_4 (a2 : (List Int)) (p18 : Int) (s38 : Int) (x40 : Int) (p19 : Int) (a0 : Spp) (o : Bool) (h : m48_4 a2 p18 s38 x40 = some o) : evCL T 0 k48_4 (frOf 78 (upd (upd (upd (upd (upd (upd (upd (upd anyF 2 (.ts .imm 1 (a2.map encInt))) 3 (.ptr 0 0 0)) 7 (.int .i64 p18)) 8 (.int .i64 s38)) 9 (.int .i64 x40)) 32 (.ts .imm 1 (a2.map encInt))) 33 (.int .i64 p19)) 34 (.int .i64 s38))) [some ⟨.box, 1, [[.ts .imm 1 (a0.ranked.map (encLLInt .imm))]]⟩] = some (X48_4 a2 p18 s38 x40 p19 a0 o) := by
  unfold m48_4 at h
  try simp -implicitDefEqProofs only [go_sem, Nat.reduceLT, Nat.reduceAdd, Nat.reduceSub, Nat.reduceMul, Nat.reduceEqDiff, Nat.reduceBEq, Nat.reduceLeDiff, Int.reduceToNat, Int.reduceLT, Int.reduceLE, Int.reduceEq, reduceCtorEq, ↓reduceIte, X48_4, k48_4]
  cases b45 : (ltI x40 0 : Bool)
  · replace h := br_f b45 h
    try simp -implicitDefEqProofs only [go_sem, Nat.reduceLT, Nat.reduceAdd, Nat.reduceSub, Nat.reduceMul, Nat.reduceEqDiff, Nat.reduceBEq, Nat.reduceLeDiff, Int.reduceToNat, Int.reduceLT, Int.reduceLE, Int.reduceEq, reduceCtorEq, ↓reduceIte, X48_4, k48_4, b45]
    cases b46 : (ltI p18 x40 : Bool)
    · replace h := br_f b46 h
      obtain ⟨g47, h⟩ := ck_some h
      try simp -implicitDefEqProofs only [go_sem, Nat.reduceLT, Nat.reduceAdd, Nat.reduceSub, Nat.reduceMul, Nat.reduceEqDiff, Nat.reduceBEq, Nat.reduceLeDiff, Int.reduceToNat, Int.reduceLT, Int.reduceLE, Int.reduceEq, reduceCtorEq, ↓reduceIte] at g47
      obtain ⟨r50, q48, h⟩ := bnd_some h
      have w49 := e87 (a2.take s38.toNat) x40 r50 q48
      try simp -implicitDefEqProofs only [go_sem, Nat.reduceLT, Nat.reduceAdd, Nat.reduceSub, Nat.reduceMul, Nat.reduceEqDiff, Nat.reduceBEq, Nat.reduceLeDiff, Int.reduceToNat, Int.reduceLT, Int.reduceLE, Int.reduceEq, reduceCtorEq, ↓reduceIte] at w49
      try simp -implicitDefEqProofs only [go_sem, Nat.reduceLT, Nat.reduceAdd, Nat.reduceSub, Nat.reduceMul, Nat.reduceEqDiff, Nat.reduceBEq, Nat.reduceLeDiff, Int.reduceToNat, Int.reduceLT, Int.reduceLE, Int.reduceEq, reduceCtorEq, ↓reduceIte, X48_4, k48_4, b45, b46, g47, w49]
      cases b51 : (r50 : Bool)
      · replace h := br_f b51 h
        try simp -implicitDefEqProofs only [go_sem, Nat.reduceLT, Nat.reduceAdd, Nat.reduceSub, Nat.reduceMul, Nat.reduceEqDiff, Nat.reduceBEq, Nat.reduceLeDiff, Int.reduceToNat, Int.reduceLT, Int.reduceLE, Int.reduceEq, reduceCtorEq, ↓reduceIte, X48_4, k48_4, b45, b46, g47, w49, b51]
        cases b52 : (eqI x40 0 : Bool)
        · replace h := br_f b52 h
          cases h
          simp -implicitDefEqProofs only [go_sem, Nat.reduceLT, Nat.reduceAdd, Nat.reduceSub, Nat.reduceMul, Nat.reduceEqDiff, Nat.reduceBEq, Nat.reduceLeDiff, Int.reduceToNat, Int.reduceLT, Int.reduceLE, Int.reduceEq, reduceCtorEq, ↓reduceIte, X48_4, k48_4, b45, b46, g47, w49, b51, b52]
        · replace h := br_t b52 h
          cases h
          simp -implicitDefEqProofs only [go_sem, Nat.reduceLT, Nat.reduceAdd, Nat.reduceSub, Nat.reduceMul, Nat.reduceEqDiff, Nat.reduceBEq, Nat.reduceLeDiff, Int.reduceToNat, Int.reduceLT, Int.reduceLE, Int.reduceEq, reduceCtorEq, ↓reduceIte, X48_4, k48_4, b45, b46, g47, w49, b51, b52]
      · replace h := br_t b51 h
        cases h
        simp -implicitDefEqProofs only [go_sem, Nat.reduceLT, Nat.reduceAdd, Nat.reduceSub, Nat.reduceMul, Nat.reduceEqDiff, Nat.reduceBEq, Nat.reduceLeDiff, Int.reduceToNat, Int.reduceLT, Int.reduceLE, Int.reduceEq, reduceCtorEq, ↓reduceIte, X48_4, k48_4, b45, b46, g47, w49, b51]
    · replace h := br_t b46 h
      cases h
      simp -implicitDefEqProofs only [go_sem, Nat.reduceLT, Nat.reduceAdd, Nat.reduceSub, Nat.reduceMul, Nat.reduceEqDiff, Nat.reduceBEq, Nat.reduceLeDiff, Int.reduceToNat, Int.reduceLT, Int.reduceLE, Int.reduceEq, reduceCtorEq, ↓reduceIte, X48_4, k48_4, b45, b46]
  · replace h := br_t b45 h
    cases h
    simp -implicitDefEqProofs only [go_sem, Nat.reduceLT, Nat.reduceAdd, Nat.reduceSub, Nat.reduceMul, Nat.reduceEqDiff, Nat.reduceBEq, Nat.reduceLeDiff, Int.reduceToNat, Int.reduceLT, Int.reduceLE, Int.reduceEq, reduceCtorEq, ↓reduceIte, X48_4, k48_4, b45]
noncomputable def X48_2 (a2 : (List Int)) (p18 : Int) (p19 : Int) (a0 : Spp) (o : (Unit ⊕ Unit)) : Ex × Fr × St :=
  match o with
  | .inl o => (.exit 0, frOf 78 (upd (upd anyF 2 (.ts .imm 1 (a2.map encInt))) 3 (.ptr 0 0 0)), [some ⟨.box, 1, [[.ts .imm 1 (a0.ranked.map (encLLInt .imm))]]⟩])
  | .inr o => (.ret, frOf 78 (upd anyF 6 (.bool false)), [])
noncomputable def E48_2 (a2 : (List Int)) (p18 : Int) (p19 : Int) (a0 : Spp) (s : Int) : Fr × St := (frOf 78 (upd (upd (upd (upd (upd (upd anyF 2 (.ts .imm 1 (a2.map encInt))) 3 (.ptr 0 0 0)) 7 (.int .i64 p18)) 32 (.ts .imm 1 (a2.map encInt))) 33 (.int .i64 p19)) 34 (.int .i64 s)), [some ⟨.box, 1, [[.ts .imm 1 (a0.ranked.map (encLLInt .imm))]]⟩])
theorem b48_2 (a2 : (List Int)) (p18 : Int) (p19 : Int) (a0 : Spp) (s : Int) (o : Ctl Int (Unit ⊕ Unit)) (h : m48_2b a2 p18 p19 s = some o) : evCL T 0 k48_2b (E48_2 a2 p18 p19 a0 s).1 (E48_2 a2 p18 p19 a0 s).2 = some (ctlX (E48_2 a2 p18 p19 a0) (X48_2 a2 p18 p19 a0) o) := by
  unfold m48_2b at h
  revert h
  generalize s = s38
  intro h
  try simp -implicitDefEqProofs only [go_sem, Nat.reduceLT, Nat.reduceAdd, Nat.reduceSub, Nat.reduceMul, Nat.reduceEqDiff, Nat.reduceBEq, Nat.reduceLeDiff, Int.reduceToNat, Int.reduceLT, Int.reduceLE, Int.reduceEq, reduceCtorEq, ↓reduceIte, E48_2, X48_2, k48_2b]
  cases b39 : (ltI s38 p19 : Bool)
  · replace h := br_f b39 h
    cases h
    simp -implicitDefEqProofs only [go_sem, Nat.reduceLT, Nat.reduceAdd, Nat.reduceSub, Nat.reduceMul, Nat.reduceEqDiff, Nat.reduceBEq, Nat.reduceLeDiff, Int.reduceToNat, Int.reduceLT, Int.reduceLE, Int.reduceEq, reduceCtorEq, ↓reduceIte, E48_2, X48_2, k48_2b, b39]
  · replace h := br_t b39 h
    obtain ⟨x40, q41, h⟩ := bnd_some h
    obtain ⟨g42, g43, g44⟩ := idx_row encInt q41
    try simp -implicitDefEqProofs only [go_sem, Nat.reduceLT, Nat.reduceAdd, Nat.reduceSub, Nat.reduceMul, Nat.reduceEqDiff, Nat.reduceBEq, Nat.reduceLeDiff, Int.reduceToNat, Int.reduceLT, Int.reduceLE, Int.reduceEq, reduceCtorEq, ↓reduceIte] at g43
    try simp -implicitDefEqProofs only [go_sem, Nat.reduceLT, Nat.reduceAdd, Nat.reduceSub, Nat.reduceMul, Nat.reduceEqDiff, Nat.reduceBEq, Nat.reduceLeDiff, Int.reduceToNat, Int.reduceLT, Int.reduceLE, Int.reduceEq, reduceCtorEq, ↓reduceIte] at g44
    obtain ⟨v55, q53, h⟩ := bnd_some h
    have w54 := e48_4 a2 p18 s38 x40 p19 a0 v55 q53
    simp only [X48_4] at w54
    try simp -implicitDefEqProofs only [go_sem, Nat.reduceLT, Nat.reduceAdd, Nat.reduceSub, Nat.reduceMul, Nat.reduceEqDiff, Nat.reduceBEq, Nat.reduceLeDiff, Int.reduceToNat, Int.reduceLT, Int.reduceLE, Int.reduceEq, reduceCtorEq, ↓reduceIte] at w54
    try simp -implicitDefEqProofs only [go_sem, Nat.reduceLT, Nat.reduceAdd, Nat.reduceSub, Nat.reduceMul, Nat.reduceEqDiff, Nat.reduceBEq, Nat.reduceLeDiff, Int.reduceToNat, Int.reduceLT, Int.reduceLE, Int.reduceEq, reduceCtorEq, ↓reduceIte, E48_2, X48_2, k48_2b, b39, g42, g43, g44, w54]
    cases b56 : (v55 : Bool)
    · replace h := br_f b56 h
      cases h
      simp -implicitDefEqProofs only [go_sem, Nat.reduceLT, Nat.reduceAdd, Nat.reduceSub, Nat.reduceMul, Nat.reduceEqDiff, Nat.reduceBEq, Nat.reduceLeDiff, Int.reduceToNat, Int.reduceLT, Int.reduceLE, Int.reduceEq, reduceCtorEq, ↓reduceIte, E48_2, X48_2, k48_2b, b39, g42, g43, g44, w54, b56]
    · replace h := br_t b56 h
      cases h
      simp -implicitDefEqProofs only [go_sem, Nat.reduceLT, Nat.reduceAdd, Nat.reduceSub, Nat.reduceMul, Nat.reduceEqDiff, Nat.reduceBEq, Nat.reduceLeDiff, Int.reduceToNat, Int.reduceLT, Int.reduceLE, Int.reduceEq, reduceCtorEq, ↓reduceIte, E48_2, X48_2, k48_2b, b39, g42, g43, g44, w54, b56]
theorem e48_2 (a2 : (List Int)) (p18 : Int) (p19 : Int) (a0 : Spp) (s : Int) (o : (Unit ⊕ Unit)) (h : loopP (m48_2b a2 p18 p19) s = some o) : evCL T 0 (.loop k48_2b) (E48_2 a2 p18 p19 a0 s).1 (E48_2 a2 p18 p19 a0 s).2 = some (X48_2 a2 p18 p19 a0 o) :=
  loop_walk (E := E48_2 a2 p18 p19 a0) (X := X48_2 a2 p18 p19 a0) (by intro b; rcases b with b | b <;> (simp only [X48_2]; nofun)) (b48_2 a2 p18 p19 a0) s o h
noncomputable def X48_5 (a2 : (List Int)) (a0 : Spp) (o : Bool) : Ex × Fr × St :=
  (.normal, frOf 78 (upd anyF 6 (.bool o)), [])
theorem e48_5 (a2 : (List Int)) (a0 : Spp) (o : Bool) (h : m48_5 a2 a0 = some o) : evCL T 0 k48_5 (frOf 78 (upd (upd anyF 2 (.ts .imm 1 (a2.map encInt))) 3 (.ptr 0 0 0))) [some ⟨.box, 1, [[.ts .imm 1 (a0.ranked.map (encLLInt .imm))]]⟩] = some (X48_5 a2 a0 o) := by
  unfold m48_5 at h
  try simp -implicitDefEqProofs only [go_sem, Nat.reduceLT, Nat.reduceAdd, Nat.reduceSub, Nat.reduceMul, Nat.reduceEqDiff, Nat.reduceBEq, Nat.reduceLeDiff, Int.reduceToNat, Int.reduceLT, Int.reduceLE, Int.reduceEq, reduceCtorEq, ↓reduceIte, X48_5, k48_5]
  cases b59 : (eqI (↑a2.length : Int) 2 : Bool)
  · replace h := br_f b59 h
    obtain ⟨x60, q61, h⟩ := bnd_some h
    obtain ⟨g62, g63, g64⟩ := idx_row encInt q61
    try simp -implicitDefEqProofs only [go_sem, Nat.reduceLT, Nat.reduceAdd, Nat.reduceSub, Nat.reduceMul, Nat.reduceEqDiff, Nat.reduceBEq, Nat.reduceLeDiff, Int.reduceToNat, Int.reduceLT, Int.reduceLE, Int.reduceEq, reduceCtorEq, ↓reduceIte] at g63
    try simp -implicitDefEqProofs only [go_sem, Nat.reduceLT, Nat.reduceAdd, Nat.reduceSub, Nat.reduceMul, Nat.reduceEqDiff, Nat.reduceBEq, Nat.reduceLeDiff, Int.reduceToNat, Int.reduceLT, Int.reduceLE, Int.reduceEq, reduceCtorEq, ↓reduceIte] at g64
    obtain ⟨g65, h⟩ := ck_some h
    try simp -implicitDefEqProofs only [go_sem, Nat.reduceLT, Nat.reduceAdd, Nat.reduceSub, Nat.reduceMul, Nat.reduceEqDiff, Nat.reduceBEq, Nat.reduceLeDiff, Int.reduceToNat, Int.reduceLT, Int.reduceLE, Int.reduceEq, reduceCtorEq, ↓reduceIte] at g65
    obtain ⟨r68, q66, h⟩ := bnd_some h
    have w67 := e49 a0 x60 (a2.drop 1) r68 q66
    try simp -implicitDefEqProofs only [go_sem, Nat.reduceLT, Nat.reduceAdd, Nat.reduceSub, Nat.reduceMul, Nat.reduceEqDiff, Nat.reduceBEq, Nat.reduceLeDiff, Int.reduceToNat, Int.reduceLT, Int.reduceLE, Int.reduceEq, reduceCtorEq, ↓reduceIte] at w67
    cases h
    simp -implicitDefEqProofs only [go_sem, Nat.reduceLT, Nat.reduceAdd, Nat.reduceSub, Nat.reduceMul, Nat.reduceEqDiff, Nat.reduceBEq, Nat.reduceLeDiff, Int.reduceToNat, Int.reduceLT, Int.reduceLE, Int.reduceEq, reduceCtorEq, ↓reduceIte, X48_5, k48_5, b59, g62, g63, g64, g65, w67]
  · replace h := br_t b59 h
    cases h
    simp -implicitDefEqProofs only [go_sem, Nat.reduceLT, Nat.reduceAdd, Nat.reduceSub, Nat.reduceMul, Nat.reduceEqDiff, Nat.reduceBEq, Nat.reduceLeDiff, Int.reduceToNat, Int.reduceLT, Int.reduceLE, Int.reduceEq, reduceCtorEq, ↓reduceIte, X48_5, k48_5, b59]
theorem e48 (a0 : Spp) (a1 : Int) (a2 : (List Int)) (r : Bool) (h : m48 a0 a1 a2 = some r) : evFL T 48 [.agg [.ts .imm 1 (a0.ranked.map (encLLInt .imm))], .int .i64 a1, .ts .imm 1 (a2.map encInt)] [] = some (.bool r, []) := by
  unfold m48 at h
  rw [evFL_at fn48 (Nat.le_of_ble_eq_true rfl) rfl (.inr rfl) ⟨rfl, rfl⟩]
  obtain ⟨v16, q14, h⟩ := bnd_some h
  have w15 := e48_1 a1 a2 (↑a0.ranked.length : Int) a0 v16 q14
  simp only [X48_1] at w15
  try simp -implicitDefEqProofs only [go_sem, Nat.reduceLT, Nat.reduceAdd, Nat.reduceSub, Nat.reduceMul, Nat.reduceEqDiff, Nat.reduceBEq, Nat.reduceLeDiff, Int.reduceToNat, Int.reduceLT, Int.reduceLE, Int.reduceEq, reduceCtorEq, ↓reduceIte] at w15
  try simp -implicitDefEqProofs only [go_sem, Nat.reduceLT, Nat.reduceAdd, Nat.reduceSub, Nat.reduceMul, Nat.reduceEqDiff, Nat.reduceBEq, Nat.reduceLeDiff, Int.reduceToNat, Int.reduceLT, Int.reduceLE, Int.reduceEq, reduceCtorEq, ↓reduceIte, i48, c48, w15]
  cases b17 : (v16 : Bool)
  · replace h := br_f b17 h
    try simp -implicitDefEqProofs only [go_sem, Nat.reduceLT, Nat.reduceAdd, Nat.reduceSub, Nat.reduceMul, Nat.reduceEqDiff, Nat.reduceBEq, Nat.reduceLeDiff, Int.reduceToNat, Int.reduceLT, Int.reduceLE, Int.reduceEq, reduceCtorEq, ↓reduceIte, i48, c48, w15, b17]
    obtain ⟨o, q57, h⟩ := bnd_some h
    rcases o with ⟨⟩ | ⟨⟩
    · replace h := selS_l h
      have w58 := e48_2 a2 (↑a0.ranked.length : Int) (↑a2.length : Int) a0 0 (.inl ()) q57
      simp only [E48_2, X48_2] at w58
      try simp -implicitDefEqProofs only [go_sem, Nat.reduceLT, Nat.reduceAdd, Nat.reduceSub, Nat.reduceMul, Nat.reduceEqDiff, Nat.reduceBEq, Nat.reduceLeDiff, Int.reduceToNat, Int.reduceLT, Int.reduceLE, Int.reduceEq, reduceCtorEq, ↓reduceIte] at w58
      obtain ⟨v71, q69, h⟩ := bnd_some h
      have w70 := e48_5 a2 a0 v71 q69
      simp only [X48_5] at w70
      try simp -implicitDefEqProofs only [go_sem, Nat.reduceLT, Nat.reduceAdd, Nat.reduceSub, Nat.reduceMul, Nat.reduceEqDiff, Nat.reduceBEq, Nat.reduceLeDiff, Int.reduceToNat, Int.reduceLT, Int.reduceLE, Int.reduceEq, reduceCtorEq, ↓reduceIte] at w70
      cases h
      simp -implicitDefEqProofs only [go_sem, Nat.reduceLT, Nat.reduceAdd, Nat.reduceSub, Nat.reduceMul, Nat.reduceEqDiff, Nat.reduceBEq, Nat.reduceLeDiff, Int.reduceToNat, Int.reduceLT, Int.reduceLE, Int.reduceEq, reduceCtorEq, ↓reduceIte, i48, c48, w15, b17, w58, w70]
    · replace h := selS_r h
      have w58 := e48_2 a2 (↑a0.ranked.length : Int) (↑a2.length : Int) a0 0 (.inr ()) q57
      simp only [E48_2, X48_2] at w58
      try simp -implicitDefEqProofs only [go_sem, Nat.reduceLT, Nat.reduceAdd, Nat.reduceSub, Nat.reduceMul, Nat.reduceEqDiff, Nat.reduceBEq, Nat.reduceLeDiff, Int.reduceToNat, Int.reduceLT, Int.reduceLE, Int.reduceEq, reduceCtorEq, ↓reduceIte] at w58
      cases h
      simp -implicitDefEqProofs only [go_sem, Nat.reduceLT, Nat.reduceAdd, Nat.reduceSub, Nat.reduceMul, Nat.reduceEqDiff, Nat.reduceBEq, Nat.reduceLeDiff, Int.reduceToNat, Int.reduceLT, Int.reduceLE, Int.reduceEq, reduceCtorEq, ↓reduceIte, i48, c48, w15, b17, w58]
  · replace h := br_t b17 h
    cases h
    simp -implicitDefEqProofs only [go_sem, Nat.reduceLT, Nat.reduceAdd, Nat.reduceSub, Nat.reduceMul, Nat.reduceEqDiff, Nat.reduceBEq, Nat.reduceLeDiff, Int.reduceToNat, Int.reduceLT, Int.reduceLE, Int.reduceEq, reduceCtorEq, ↓reduceIte, i48, c48, w15, b17]
-- f14 spec.GoodSpp
theorem call14 (args : List AV) (S : St) : evCall T (evFL T) 14 args S = lendC (evFL T 14) S (lendAll S [[1]] args) := evCall0 fn14 rfl rfl rfl args S
theorem callz14 (args : List AV) (S : St) : evCallFz T (evFL T) 14 args S = lendZ (evFL T 14) S [[0]] (lendAll S [[1]] args) := evCallFz0 fn14 rfl rfl rfl args S
theorem calls14 (args : List AV) (S : St) : evCall (T.at true) (evFL T) 14 args S = lendC (evFL T 14) S (lendAll S [[1]] args) := evCall0 fns14 rfl rfl rfl args S
theorem callsz14 (args : List AV) (S : St) : evCallFz (T.at true) (evFL T) 14 args S = lendZ (evFL T 14) S [[0]] (lendAll S [[1]] args) := evCallFz0 fns14 rfl rfl rfl args S
attribute [go_sem] call14 callz14 calls14 callsz14
noncomputable def X14_7 (s51 : Int) (s77 : Int) (x79 : (List Int)) (a0 : Spp) (p5 : Int) (x53 : (List (List Int))) (p59 : Int) (o : Bool) : Ex × Fr × St :=
  (.normal, frOf 47 (upd (upd (upd (upd (upd (upd (upd (upd (upd anyF 1 (.ptr 0 0 0)) 3 (.int .i64 s51)) 13 (.ts .imm 1 (a0.ranked.map (encLLInt .imm)))) 14 (.int .i64 p5)) 15 (.int .i64 s51)) 23 (.ts .imm 1 (x53.map (encLInt .imm)))) 24 (.int .i64 p59)) 25 (.int .i64 s77)) 44 (.bool o)), [some ⟨.box, 1, [[.ts .imm 1 (a0.ranked.map (encLLInt .imm))]]⟩])
theorem e14_7 (s51 : Int) (s77 : Int) (x79 : (List Int)) (a0 : Spp) (p5 : Int) (x53 : (List (List Int))) (p59 : Int) (o : Bool) (h : m14_7 s51 s77 x79 a0 = some o) : evCL T 0 k14_7 (frOf 47 (upd (upd (upd (upd (upd (upd (upd (upd (upd (upd anyF 1 (.ptr 0 0 0)) 3 (.int .i64 s51)) 5 (.int .i64 s77)) 6 (.ts .imm 1 (x79.map encInt))) 13 (.ts .imm 1 (a0.ranked.map (encLLInt .imm)))) 14 (.int .i64 p5)) 15 (.int .i64 s51)) 23 (.ts .imm 1 (x53.map (encLInt .imm)))) 24 (.int .i64 p59)) 25 (.int .i64 s77))) [some ⟨.box, 1, [[.ts .imm 1 (a0.ranked.map (encLLInt .imm))]]⟩] = some (X14_7 s51 s77 x79 a0 p5 x53 p59 o) := by
  unfold m14_7 at h
  obtain ⟨r86, q84, h⟩ := bnd_some h
  have w85 := e48 a0 (wadd .i64 s51 1) x79 r86 q84
  try simp -implicitDefEqProofs only [go_sem, Nat.reduceLT, Nat.reduceAdd, Nat.reduceSub, Nat.reduceMul, Nat.reduceEqDiff, Nat.reduceBEq, Nat.reduceLeDiff, Int.reduceToNat, Int.reduceLT, Int.reduceLE, Int.reduceEq, reduceCtorEq, ↓reduceIte] at w85
  try simp -implicitDefEqProofs only [go_sem, Nat.reduceLT, Nat.reduceAdd, Nat.reduceSub, Nat.reduceMul, Nat.reduceEqDiff, Nat.reduceBEq, Nat.reduceLeDiff, Int.reduceToNat, Int.reduceLT, Int.reduceLE, Int.reduceEq, reduceCtorEq, ↓reduceIte, X14_7, k14_7, w85]
  cases b87 : (r86 : Bool)
  · replace h := br_f b87 h
    cases h
    simp -implicitDefEqProofs only [go_sem, Nat.reduceLT, Nat.reduceAdd, Nat.reduceSub, Nat.reduceMul, Nat.reduceEqDiff, Nat.reduceBEq, Nat.reduceLeDiff, Int.reduceToNat, Int.reduceLT, Int.reduceLE, Int.reduceEq, reduceCtorEq, ↓reduceIte, X14_7, k14_7, w85, b87]
  · replace h := br_t b87 h
    obtain ⟨r90, q88, h⟩ := bnd_some h
    have w89 := e49 a0 (wadd .i64 s51 1) x79 r90 q88
    try simp -implicitDefEqProofs only [go_sem, Nat.reduceLT, Nat.reduceAdd, Nat.reduceSub, Nat.reduceMul, Nat.reduceEqDiff, Nat.reduceBEq, Nat.reduceLeDiff, Int.reduceToNat, Int.reduceLT, Int.reduceLE, Int.reduceEq, reduceCtorEq, ↓reduceIte] at w89
    cases h
    simp -implicitDefEqProofs only [go_sem, Nat.reduceLT, Nat.reduceAdd, Nat.reduceSub, Nat.reduceMul, Nat.reduceEqDiff, Nat.reduceBEq, Nat.reduceLeDiff, Int.reduceToNat, Int.reduceLT, Int.reduceLE, Int.reduceEq, reduceCtorEq, ↓reduceIte, X14_7, k14_7, w85, b87, w89]
noncomputable def X14_5 (s51 : Int) (a0 : Spp) (p5 : Int) (x53 : (List (List Int))) (p59 : Int) (o : (Unit ⊕ Unit)) : Ex × Fr × St :=
  match o with
  | .inl o => (.exit 2, frOf 47 (upd (upd (upd (upd anyF 1 (.ptr 0 0 0)) 13 (.ts .imm 1 (a0.ranked.map (encLLInt .imm)))) 14 (.int .i64 p5)) 15 (.int .i64 s51)), [some ⟨.box, 1, [[.ts .imm 1 (a0.ranked.map (encLLInt .imm))]]⟩])
  | .inr o => (.ret, frOf 47 (upd anyF 2 (.bool false)), [])
noncomputable def E14_5 (s51 : Int) (a0 : Spp) (p5 : Int) (x53 : (List (List Int))) (p59 : Int) (s : Int) : Fr × St := (frOf 47 (upd (upd (upd (upd (upd (upd (upd (upd anyF 1 (.ptr 0 0 0)) 3 (.int .i64 s51)) 13 (.ts .imm 1 (a0.ranked.map (encLLInt .imm)))) 14 (.int .i64 p5)) 15 (.int .i64 s51)) 23 (.ts .imm 1 (x53.map (encLInt .imm)))) 24 (.int .i64 p59)) 25 (.int .i64 s)), [some ⟨.box, 1, [[.ts .imm 1 (a0.ranked.map (encLLInt .imm))]]⟩])
theorem b14_5 (s51 : Int) (a0 : Spp) (p5 : Int) (x53 : (List (List Int))) (p59 : Int) (s : Int) (o : Ctl Int (Unit ⊕ Unit)) (h : m14_5b s51 a0 x53 p59 s = some o) : evCL T 0 k14_5b (E14_5 s51 a0 p5 x53 p59 s).1 (E14_5 s51 a0 p5 x53 p59 s).2 = some (ctlX (E14_5 s51 a0 p5 x53 p59) (X14_5 s51 a0 p5 x53 p59) o) := by
  unfold m14_5b at h
  revert h
  generalize s = s77
  intro h
  try simp -implicitDefEqProofs only [go_sem, Nat.reduceLT, Nat.reduceAdd, Nat.reduceSub, Nat.reduceMul, Nat.reduceEqDiff, Nat.reduceBEq, Nat.reduceLeDiff, Int.reduceToNat, Int.reduceLT, Int.reduceLE, Int.reduceEq, reduceCtorEq, ↓reduceIte, E14_5, X14_5, k14_5b]
  cases b78 : (ltI s77 p59 : Bool)
  · replace h := br_f b78 h
    cases h
    simp -implicitDefEqProofs only [go_sem, Nat.reduceLT, Nat.reduceAdd, Nat.reduceSub, Nat.reduceMul, Nat.reduceEqDiff, Nat.reduceBEq, Nat.reduceLeDiff, Int.reduceToNat, Int.reduceLT, Int.reduceLE, Int.reduceEq, reduceCtorEq, ↓reduceIte, E14_5, X14_5, k14_5b, b78]
  · replace h := br_t b78 h
    obtain ⟨x79, q80, h⟩ := bnd_some h
    obtain ⟨g81, g82, g83⟩ := idx_row (encLInt .imm) q80
    try simp -implicitDefEqProofs only [go_sem, Nat.reduceLT, Nat.reduceAdd, Nat.reduceSub, Nat.reduceMul, Nat.reduceEqDiff, Nat.reduceBEq, Nat.reduceLeDiff, Int.reduceToNat, Int.reduceLT, Int.reduceLE, Int.reduceEq, reduceCtorEq, ↓reduceIte] at g82
    try simp -implicitDefEqProofs only [go_sem, Nat.reduceLT, Nat.reduceAdd, Nat.reduceSub, Nat.reduceMul, Nat.reduceEqDiff, Nat.reduceBEq, Nat.reduceLeDiff, Int.reduceToNat, Int.reduceLT, Int.reduceLE, Int.reduceEq, reduceCtorEq, ↓reduceIte] at g83
    obtain ⟨v93, q91, h⟩ := bnd_some h
    have w92 := e14_7 s51 s77 x79 a0 p5 x53 p59 v93 q91
    simp only [X14_7] at w92
    try simp -implicitDefEqProofs only [go_sem, Nat.reduceLT, Nat.reduceAdd, Nat.reduceSub, Nat.reduceMul, Nat.reduceEqDiff, Nat.reduceBEq, Nat.reduceLeDiff, Int.reduceToNat, Int.reduceLT, Int.reduceLE, Int.reduceEq, reduceCtorEq, ↓reduceIte] at w92
    try simp -implicitDefEqProofs only [go_sem, Nat.reduceLT, Nat.reduceAdd, Nat.reduceSub, Nat.reduceMul, Nat.reduceEqDiff, Nat.reduceBEq, Nat.reduceLeDiff, Int.reduceToNat, Int.reduceLT, Int.reduceLE, Int.reduceEq, reduceCtorEq, ↓reduceIte, E14_5, X14_5, k14_5b, b78, g81, g82, g83, w92]
    cases b94 : (v93 : Bool)
    · replace h := br_f b94 h
      cases h
      simp -implicitDefEqProofs only [go_sem, Nat.reduceLT, Nat.reduceAdd, Nat.reduceSub, Nat.reduceMul, Nat.reduceEqDiff, Nat.reduceBEq, Nat.reduceLeDiff, Int.reduceToNat, Int.reduceLT, Int.reduceLE, Int.reduceEq, reduceCtorEq, ↓reduceIte, E14_5, X14_5, k14_5b, b78, g81, g82, g83, w92, b94]
    · replace h := br_t b94 h
      cases h
      simp -implicitDefEqProofs only [go_sem, Nat.reduceLT, Nat.reduceAdd, Nat.reduceSub, Nat.reduceMul, Nat.reduceEqDiff, Nat.reduceBEq, Nat.reduceLeDiff, Int.reduceToNat, Int.reduceLT, Int.reduceLE, Int.reduceEq, reduceCtorEq, ↓reduceIte, E14_5, X14_5, k14_5b, b78, g81, g82, g83, w92, b94]
theorem e14_5 (s51 : Int) (a0 : Spp) (p5 : Int) (x53 : (List (List Int))) (p59 : Int) (s : Int) (o : (Unit ⊕ Unit)) (h : loopP (m14_5b s51 a0 x53 p59) s = some o) : evCL T 0 (.loop k14_5b) (E14_5 s51 a0 p5 x53 p59 s).1 (E14_5 s51 a0 p5 x53 p59 s).2 = some (X14_5 s51 a0 p5 x53 p59 o) :=
  loop_walk (E := E14_5 s51 a0 p5 x53 p59) (X := X14_5 s51 a0 p5 x53 p59) (by intro b; rcases b with b | b <;> (simp only [X14_5]; nofun)) (b14_5 s51 a0 p5 x53 p59) s o h
noncomputable def X14_1 (a0 : Spp) (p5 : Int) (o : (Unit ⊕ Unit)) : Ex × Fr × St :=
  match o with
  | .inl o => (.exit 0, frOf 47 (anyF), [])
  | .inr o => (.ret, frOf 47 (upd anyF 2 (.bool false)), [])
noncomputable def E14_1 (a0 : Spp) (p5 : Int) (s : Int) : Fr × St := (frOf 47 (upd (upd (upd (upd anyF 1 (.ptr 0 0 0)) 13 (.ts .imm 1 (a0.ranked.map (encLLInt .imm)))) 14 (.int .i64 p5)) 15 (.int .i64 s)), [some ⟨.box, 1, [[.ts .imm 1 (a0.ranked.map (encLLInt .imm))]]⟩])
theorem b14_1 (a0 : Spp) (p5 : Int) (s : Int) (o : Ctl Int (Unit ⊕ Unit)) (h : m14_1b a0 p5 s = some o) : evCL T 0 k14_1b (E14_1 a0 p5 s).1 (E14_1 a0 p5 s).2 = some (ctlX (E14_1 a0 p5) (X14_1 a0 p5) o) := by
  unfold m14_1b at h
  revert h
  generalize s = s51
  intro h
  try simp -implicitDefEqProofs only [go_sem, Nat.reduceLT, Nat.reduceAdd, Nat.reduceSub, Nat.reduceMul, Nat.reduceEqDiff, Nat.reduceBEq, Nat.reduceLeDiff, Int.reduceToNat, Int.reduceLT, Int.reduceLE, Int.reduceEq, reduceCtorEq, ↓reduceIte, E14_1, X14_1, k14_1b]
  cases b52 : (ltI s51 p5 : Bool)
  · replace h := br_f b52 h
    cases h
    simp -implicitDefEqProofs only [go_sem, Nat.reduceLT, Nat.reduceAdd, Nat.reduceSub, Nat.reduceMul, Nat.reduceEqDiff, Nat.reduceBEq, Nat.reduceLeDiff, Int.reduceToNat, Int.reduceLT, Int.reduceLE, Int.reduceEq, reduceCtorEq, ↓reduceIte, E14_1, X14_1, k14_1b, b52]
  · replace h := br_t b52 h
    obtain ⟨x53, q54, h⟩ := bnd_some h
    obtain ⟨g55, g56, g57⟩ := idx_row (encLLInt .imm) q54
    try simp -implicitDefEqProofs only [go_sem, Nat.reduceLT, Nat.reduceAdd, Nat.reduceSub, Nat.reduceMul, Nat.reduceEqDiff, Nat.reduceBEq, Nat.reduceLeDiff, Int.reduceToNat, Int.reduceLT, Int.reduceLE, Int.reduceEq, reduceCtorEq, ↓reduceIte] at g56
    try simp -implicitDefEqProofs only [go_sem, Nat.reduceLT, Nat.reduceAdd, Nat.reduceSub, Nat.reduceMul, Nat.reduceEqDiff, Nat.reduceBEq, Nat.reduceLeDiff, Int.reduceToNat, Int.reduceLT, Int.reduceLE, Int.reduceEq, reduceCtorEq, ↓reduceIte] at g57
    try simp -implicitDefEqProofs only [go_sem, Nat.reduceLT, Nat.reduceAdd, Nat.reduceSub, Nat.reduceMul, Nat.reduceEqDiff, Nat.reduceBEq, Nat.reduceLeDiff, Int.reduceToNat, Int.reduceLT, Int.reduceLE, Int.reduceEq, reduceCtorEq, ↓reduceIte, E14_1, X14_1, k14_1b, b52, g55, g56, g57]
    cases b58 : (ltI 6 (↑x53.length : Int) : Bool)
    · replace h := br_f b58 h
      try simp -implicitDefEqProofs only [go_sem, Nat.reduceLT, Nat.reduceAdd, Nat.reduceSub, Nat.reduceMul, Nat.reduceEqDiff, Nat.reduceBEq, Nat.reduceLeDiff, Int.reduceToNat, Int.reduceLT, Int.reduceLE, Int.reduceEq, reduceCtorEq, ↓reduceIte, E14_1, X14_1, k14_1b, b52, g55, g56, g57, b58]
      obtain ⟨o, q95, h⟩ := bnd_some h
      rcases o with ⟨⟩ | ⟨⟩
      · replace h := selS_l h
        have w96 := e14_5 s51 a0 p5 x53 (↑x53.length : Int) 0 (.inl ()) q95
        simp only [E14_5, X14_5] at w96
        try simp -implicitDefEqProofs only [go_sem, Nat.reduceLT, Nat.reduceAdd, Nat.reduceSub, Nat.reduceMul, Nat.reduceEqDiff, Nat.reduceBEq, Nat.reduceLeDiff, Int.reduceToNat, Int.reduceLT, Int.reduceLE, Int.reduceEq, reduceCtorEq, ↓reduceIte] at w96
        cases h
        simp -implicitDefEqProofs only [go_sem, Nat.reduceLT, Nat.reduceAdd, Nat.reduceSub, Nat.reduceMul, Nat.reduceEqDiff, Nat.reduceBEq, Nat.reduceLeDiff, Int.reduceToNat, Int.reduceLT, Int.reduceLE, Int.reduceEq, reduceCtorEq, ↓reduceIte, E14_1, X14_1, k14_1b, b52, g55, g56, g57, b58, w96]
      · replace h := selS_r h
        have w96 := e14_5 s51 a0 p5 x53 (↑x53.length : Int) 0 (.inr ()) q95
        simp only [E14_5, X14_5] at w96
        try simp -implicitDefEqProofs only [go_sem, Nat.reduceLT, Nat.reduceAdd, Nat.reduceSub, Nat.reduceMul, Nat.reduceEqDiff, Nat.reduceBEq, Nat.reduceLeDiff, Int.reduceToNat, Int.reduceLT, Int.reduceLE, Int.reduceEq, reduceCtorEq, ↓reduceIte] at w96
        cases h
        simp -implicitDefEqProofs only [go_sem, Nat.reduceLT, Nat.reduceAdd, Nat.reduceSub, Nat.reduceMul, Nat.reduceEqDiff, Nat.reduceBEq, Nat.reduceLeDiff, Int.reduceToNat, Int.reduceLT, Int.reduceLE, Int.reduceEq, reduceCtorEq, ↓reduceIte, E14_1, X14_1, k14_1b, b52, g55, g56, g57, b58, w96]
    · replace h := br_t b58 h
      cases h
      simp -implicitDefEqProofs only [go_sem, Nat.reduceLT, Nat.reduceAdd, Nat.reduceSub, Nat.reduceMul, Nat.reduceEqDiff, Nat.reduceBEq, Nat.reduceLeDiff, Int.reduceToNat, Int.reduceLT, Int.reduceLE, Int.reduceEq, reduceCtorEq, ↓reduceIte, E14_1, X14_1, k14_1b, b52, g55, g56, g57, b58]
theorem e14_1 (a0 : Spp) (p5 : Int) (s : Int) (o : (Unit ⊕ Unit)) (h : loopP (m14_1b a0 p5) s = some o) : evCL T 0 (.loop k14_1b) (E14_1 a0 p5 s).1 (E14_1 a0 p5 s).2 = some (X14_1 a0 p5 o) :=
  loop_walk (E := E14_1 a0 p5) (X := X14_1 a0 p5) (by intro b; rcases b with b | b <;> (simp only [X14_1]; nofun)) (b14_1 a0 p5) s o h
theorem e14 (a0 : Spp) (r : Bool) (h : m14 a0 = some r) : evFL T 14 [.agg [.ts .imm 1 (a0.ranked.map (encLLInt .imm))]] [] = some (.bool r, []) := by
  unfold m14 at h
  rw [evFL_at fn14 (Nat.le_of_ble_eq_true rfl) rfl (.inr rfl) ⟨rfl, rfl⟩]
  obtain ⟨r3, q1, h⟩ := bnd_some h
  have w2 := e47 (↑a0.ranked.length : Int) 1 5 r3 q1
  try simp -implicitDefEqProofs only [go_sem, Nat.reduceLT, Nat.reduceAdd, Nat.reduceSub, Nat.reduceMul, Nat.reduceEqDiff, Nat.reduceBEq, Nat.reduceLeDiff, Int.reduceToNat, Int.reduceLT, Int.reduceLE, Int.reduceEq, reduceCtorEq, ↓reduceIte] at w2
  try simp -implicitDefEqProofs only [go_sem, Nat.reduceLT, Nat.reduceAdd, Nat.reduceSub, Nat.reduceMul, Nat.reduceEqDiff, Nat.reduceBEq, Nat.reduceLeDiff, Int.reduceToNat, Int.reduceLT, Int.reduceLE, Int.reduceEq, reduceCtorEq, ↓reduceIte, i14, c14, w2]
  cases b4 : (r3 : Bool)
  · replace h := br_f b4 h
    cases h
    simp -implicitDefEqProofs only [go_sem, Nat.reduceLT, Nat.reduceAdd, Nat.reduceSub, Nat.reduceMul, Nat.reduceEqDiff, Nat.reduceBEq, Nat.reduceLeDiff, Int.reduceToNat, Int.reduceLT, Int.reduceLE, Int.reduceEq, reduceCtorEq, ↓reduceIte, i14, c14, w2, b4]
  · replace h := br_t b4 h
    try simp -implicitDefEqProofs only [go_sem, Nat.reduceLT, Nat.reduceAdd, Nat.reduceSub, Nat.reduceMul, Nat.reduceEqDiff, Nat.reduceBEq, Nat.reduceLeDiff, Int.reduceToNat, Int.reduceLT, Int.reduceLE, Int.reduceEq, reduceCtorEq, ↓reduceIte, i14, c14, w2, b4]
    obtain ⟨o, q97, h⟩ := bnd_some h
    rcases o with ⟨⟩ | ⟨⟩
    · replace h := selS_l h
      have w98 := e14_1 a0 (↑a0.ranked.length : Int) 0 (.inl ()) q97
      simp only [E14_1, X14_1] at w98
      try simp -implicitDefEqProofs only [go_sem, Nat.reduceLT, Nat.reduceAdd, Nat.reduceSub, Nat.reduceMul, Nat.reduceEqDiff, Nat.reduceBEq, Nat.reduceLeDiff, Int.reduceToNat, Int.reduceLT, Int.reduceLE, Int.reduceEq, reduceCtorEq, ↓reduceIte] at w98
      cases h
      simp -implicitDefEqProofs only [go_sem, Nat.reduceLT, Nat.reduceAdd, Nat.reduceSub, Nat.reduceMul, Nat.reduceEqDiff, Nat.reduceBEq, Nat.reduceLeDiff, Int.reduceToNat, Int.reduceLT, Int.reduceLE, Int.reduceEq, reduceCtorEq, ↓reduceIte, i14, c14, w2, b4, w98]
    · replace h := selS_r h
      have w98 := e14_1 a0 (↑a0.ranked.length : Int) 0 (.inr ()) q97
      simp only [E14_1, X14_1] at w98
      try simp -implicitDefEqProofs only [go_sem, Nat.reduceLT, Nat.reduceAdd, Nat.reduceSub, Nat.reduceMul, Nat.reduceEqDiff, Nat.reduceBEq, Nat.reduceLeDiff, Int.reduceToNat, Int.reduceLT, Int.reduceLE, Int.reduceEq, reduceCtorEq, ↓reduceIte] at w98
      cases h
      simp -implicitDefEqProofs only [go_sem, Nat.reduceLT, Nat.reduceAdd, Nat.reduceSub, Nat.reduceMul, Nat.reduceEqDiff, Nat.reduceBEq, Nat.reduceLeDiff, Int.reduceToNat, Int.reduceLT, Int.reduceLE, Int.reduceEq, reduceCtorEq, ↓reduceIte, i14, c14, w2, b4, w98]
-- f58 spec.l10Best
theorem call58 (args : List AV) (S : St) : evCall T (evFL T) 58 args S = lendC (evFL T 58) S (lendAll S [[1], [1], [0]] args) := evCall0 fn58 rfl rfl rfl args S
theorem callz58 (args : List AV) (S : St) : evCallFz T (evFL T) 58 args S = lendZ (evFL T 58) S [[0]] (lendAll S [[1], [1], [0]] args) := evCallFz0 fn58 rfl rfl rfl args S
theorem calls58 (args : List AV) (S : St) : evCall (T.at true) (evFL T) 58 args S = lendC (evFL T 58) S (lendAll S [[1], [1], [0]] args) := evCall0 fns58 rfl rfl rfl args S
theorem callsz58 (args : List AV) (S : St) : evCallFz (T.at true) (evFL T) 58 args S = lendZ (evFL T 58) S [[0]] (lendAll S [[1], [1], [0]] args) := evCallFz0 fns58 rfl rfl rfl args S
attribute [go_sem] call58 callz58 calls58 callsz58
noncomputable def X58_3 (a1 : (List Int)) (s48 : Int) (x50 : (List Int)) (x61 : Int) (x1 : (List (List Int))) (p6 : Int) (a0 : Spp) (o : Bool) : Ex × Fr × St :=
  (.normal, frOf 53 (upd (upd (upd (upd (upd (upd (upd anyF 1 (.ts .imm 1 (a1.map encInt))) 3 (.ptr 0 0 0)) 7 (.int .i64 s48)) 15 (.ts .imm 1 (x1.map (encLInt .imm)))) 16 (.int .i64 p6)) 17 (.int .i64 s48)) 50 (.bool o)), [some ⟨.box, 1, [[.ts .imm 1 (a0.ranked.map (encLLInt .imm))]]⟩])
theorem e58_3 (a1 : (List Int)) (s48 : Int) (x50 : (List Int)) (x61 : Int) (x1 : (List (List Int))) (p6 : Int) (a0 : Spp) (o : Bool) (h : m58_3 x50 x61 a0 = some o) : evCL T 0 k58_3 (frOf 53 (upd (upd (upd (upd (upd (upd (upd (upd anyF 1 (.ts .imm 1 (a1.map encInt))) 3 (.ptr 0 0 0)) 7 (.int .i64 s48)) 8 (.ts .imm 1 (x50.map encInt))) 9 (.int .i64 x61)) 15 (.ts .imm 1 (x1.map (encLInt .imm)))) 16 (.int .i64 p6)) 17 (.int .i64 s48))) [some ⟨.box, 1, [[.ts .imm 1 (a0.ranked.map (encLLInt .imm))]]⟩] = some (X58_3 a1 s48 x50 x61 x1 p6 a0 o) := by
  unfold m58_3 at h
  try simp -implicitDefEqProofs only [go_sem, Nat.reduceLT, Nat.reduceAdd, Nat.reduceSub, Nat.reduceMul, Nat.reduceEqDiff, Nat.reduceBEq, Nat.reduceLeDiff, Int.reduceToNat, Int.reduceLT, Int.reduceLE, Int.reduceEq, reduceCtorEq, ↓reduceIte, X58_3, k58_3]
  cases b66 : (leI 0 x61 : Bool)
  · replace h := br_f b66 h
    cases h
    simp -implicitDefEqProofs only [go_sem, Nat.reduceLT, Nat.reduceAdd, Nat.reduceSub, Nat.reduceMul, Nat.reduceEqDiff, Nat.reduceBEq, Nat.reduceLeDiff, Int.reduceToNat, Int.reduceLT, Int.reduceLE, Int.reduceEq, reduceCtorEq, ↓reduceIte, X58_3, k58_3, b66]
  · replace h := br_t b66 h
    obtain ⟨x67, q68, h⟩ := bnd_some h
    obtain ⟨g69, g70, g71⟩ := idx_row encInt q68
    try simp -implicitDefEqProofs only [go_sem, Nat.reduceLT, Nat.reduceAdd, Nat.reduceSub, Nat.reduceMul, Nat.reduceEqDiff, Nat.reduceBEq, Nat.reduceLeDiff, Int.reduceToNat, Int.reduceLT, Int.reduceLE, Int.reduceEq, reduceCtorEq, ↓reduceIte] at g70
    try simp -implicitDefEqProofs only [go_sem, Nat.reduceLT, Nat.reduceAdd, Nat.reduceSub, Nat.reduceMul, Nat.reduceEqDiff, Nat.reduceBEq, Nat.reduceLeDiff, Int.reduceToNat, Int.reduceLT, Int.reduceLE, Int.reduceEq, reduceCtorEq, ↓reduceIte] at g71
    obtain ⟨x72, q73, h⟩ := bnd_some h
    obtain ⟨g74, g75, g76⟩ := idx_row (encLLInt .imm) q73
    try simp -implicitDefEqProofs only [go_sem, Nat.reduceLT, Nat.reduceAdd, Nat.reduceSub, Nat.reduceMul, Nat.reduceEqDiff, Nat.reduceBEq, Nat.reduceLeDiff, Int.reduceToNat, Int.reduceLT, Int.reduceLE, Int.reduceEq, reduceCtorEq, ↓reduceIte] at g75
    try simp -implicitDefEqProofs only [go_sem, Nat.reduceLT, Nat.reduceAdd, Nat.reduceSub, Nat.reduceMul, Nat.reduceEqDiff, Nat.reduceBEq, Nat.reduceLeDiff, Int.reduceToNat, Int.reduceLT, Int.reduceLE, Int.reduceEq, reduceCtorEq, ↓reduceIte] at g76
    obtain ⟨x77, q78, h⟩ := bnd_some h
    obtain ⟨g79, g80, g81⟩ := idx_row (encLInt .imm) q78
    try simp -implicitDefEqProofs only [go_sem, Nat.reduceLT, Nat.reduceAdd, Nat.reduceSub, Nat.reduceMul, Nat.reduceEqDiff, Nat.reduceBEq, Nat.reduceLeDiff, Int.reduceToNat, Int.reduceLT, Int.reduceLE, Int.reduceEq, reduceCtorEq, ↓reduceIte] at g80
    try simp -implicitDefEqProofs only [go_sem, Nat.reduceLT, Nat.reduceAdd, Nat.reduceSub, Nat.reduceMul, Nat.reduceEqDiff, Nat.reduceBEq, Nat.reduceLeDiff, Int.reduceToNat, Int.reduceLT, Int.reduceLE, Int.reduceEq, reduceCtorEq, ↓reduceIte] at g81
    obtain ⟨g82, h⟩ := ck_some h
    try simp -implicitDefEqProofs only [go_sem, Nat.reduceLT, Nat.reduceAdd, Nat.reduceSub, Nat.reduceMul, Nat.reduceEqDiff, Nat.reduceBEq, Nat.reduceLeDiff, Int.reduceToNat, Int.reduceLT, Int.reduceLE, Int.reduceEq, reduceCtorEq, ↓reduceIte] at g82
    obtain ⟨r85, q83, h⟩ := bnd_some h
    have w84 := e79 x77 (x50.drop 1) r85 q83
    try simp -implicitDefEqProofs only [go_sem, Nat.reduceLT, Nat.reduceAdd, Nat.reduceSub, Nat.reduceMul, Nat.reduceEqDiff, Nat.reduceBEq, Nat.reduceLeDiff, Int.reduceToNat, Int.reduceLT, Int.reduceLE, Int.reduceEq, reduceCtorEq, ↓reduceIte] at w84
    cases h
    simp -implicitDefEqProofs only [go_sem, Nat.reduceLT, Nat.reduceAdd, Nat.reduceSub, Nat.reduceMul, Nat.reduceEqDiff, Nat.reduceBEq, Nat.reduceLeDiff, Int.reduceToNat, Int.reduceLT, Int.reduceLE, Int.reduceEq, reduceCtorEq, ↓reduceIte, X58_3, k58_3, b66, g69, g70, g71, g74, g75, g76, g79, g80, g81, g82, w84]
noncomputable def X58_1 (a1 : (List Int)) (x1 : (List (List Int))) (p6 : Int) (a0 : Spp) (o : (Unit ⊕ Int)) : Ex × Fr × St :=
  match o with
  | .inl o => (.exit 0, frOf 53 (anyF), [])
  | .inr o => (.ret, frOf 53 (upd anyF 6 (.int .i64 o)), [])
noncomputable def E58_1 (a1 : (List Int)) (x1 : (List (List Int))) (p6 : Int) (a0 : Spp) (s : Int) : Fr × St := (frOf 53 (upd (upd (upd (upd (upd anyF 1 (.ts .imm 1 (a1.map encInt))) 3 (.ptr 0 0 0)) 15 (.ts .imm 1 (x1.map (encLInt .imm)))) 16 (.int .i64 p6)) 17 (.int .i64 s)), [some ⟨.box, 1, [[.ts .imm 1 (a0.ranked.map (encLLInt .imm))]]⟩])
theorem b58_1 (a1 : (List Int)) (x1 : (List (List Int))) (p6 : Int) (a0 : Spp) (s : Int) (o : Ctl Int (Unit ⊕ Int)) (h : m58_1b a1 x1 p6 a0 s = some o) : evCL T 0 k58_1b (E58_1 a1 x1 p6 a0 s).1 (E58_1 a1 x1 p6 a0 s).2 = some (ctlX (E58_1 a1 x1 p6 a0) (X58_1 a1 x1 p6 a0) o) := by
  unfold m58_1b at h
  revert h
  generalize s = s48
  intro h
  try simp -implicitDefEqProofs only [go_sem, Nat.reduceLT, Nat.reduceAdd, Nat.reduceSub, Nat.reduceMul, Nat.reduceEqDiff, Nat.reduceBEq, Nat.reduceLeDiff, Int.reduceToNat, Int.reduceLT, Int.reduceLE, Int.reduceEq, reduceCtorEq, ↓reduceIte, E58_1, X58_1, k58_1b]
  cases b49 : (ltI s48 p6 : Bool)
  · replace h := br_f b49 h
    cases h
    simp -implicitDefEqProofs only [go_sem, Nat.reduceLT, Nat.reduceAdd, Nat.reduceSub, Nat.reduceMul, Nat.reduceEqDiff, Nat.reduceBEq, Nat.reduceLeDiff, Int.reduceToNat, Int.reduceLT, Int.reduceLE, Int.reduceEq, reduceCtorEq, ↓reduceIte, E58_1, X58_1, k58_1b, b49]
  · replace h := br_t b49 h
    obtain ⟨x50, q51, h⟩ := bnd_some h
    obtain ⟨g52, g53, g54⟩ := idx_row (encLInt .imm) q51
    try simp -implicitDefEqProofs only [go_sem, Nat.reduceLT, Nat.reduceAdd, Nat.reduceSub, Nat.reduceMul, Nat.reduceEqDiff, Nat.reduceBEq, Nat.reduceLeDiff, Int.reduceToNat, Int.reduceLT, Int.reduceLE, Int.reduceEq, reduceCtorEq, ↓reduceIte] at g53
    try simp -implicitDefEqProofs only [go_sem, Nat.reduceLT, Nat.reduceAdd, Nat.reduceSub, Nat.reduceMul, Nat.reduceEqDiff, Nat.reduceBEq, Nat.reduceLeDiff, Int.reduceToNat, Int.reduceLT, Int.reduceLE, Int.reduceEq, reduceCtorEq, ↓reduceIte] at g54
    try simp -implicitDefEqProofs only [go_sem, Nat.reduceLT, Nat.reduceAdd, Nat.reduceSub, Nat.reduceMul, Nat.reduceEqDiff, Nat.reduceBEq, Nat.reduceLeDiff, Int.reduceToNat, Int.reduceLT, Int.reduceLE, Int.reduceEq, reduceCtorEq, ↓reduceIte, E58_1, X58_1, k58_1b, b49, g52, g53, g54]
    cases b55 : (eqI (↑x50.length : Int) 2 : Bool)
    · replace h := br_f b55 h
      obtain ⟨x56, q57, h⟩ := bnd_some h
      obtain ⟨g58, g59, g60⟩ := idx_row encInt q57
      try simp -implicitDefEqProofs only [go_sem, Nat.reduceLT, Nat.reduceAdd, Nat.reduceSub, Nat.reduceMul, Nat.reduceEqDiff, Nat.reduceBEq, Nat.reduceLeDiff, Int.reduceToNat, Int.reduceLT, Int.reduceLE, Int.reduceEq, reduceCtorEq, ↓reduceIte] at g59
      try simp -implicitDefEqProofs only [go_sem, Nat.reduceLT, Nat.reduceAdd, Nat.reduceSub, Nat.reduceMul, Nat.reduceEqDiff, Nat.reduceBEq, Nat.reduceLeDiff, Int.reduceToNat, Int.reduceLT, Int.reduceLE, Int.reduceEq, reduceCtorEq, ↓reduceIte] at g60
      obtain ⟨x61, q62, h⟩ := bnd_some h
      obtain ⟨g63, g64, g65⟩ := idx_row encInt q62
      try simp -implicitDefEqProofs only [go_sem, Nat.reduceLT, Nat.reduceAdd, Nat.reduceSub, Nat.reduceMul, Nat.reduceEqDiff, Nat.reduceBEq, Nat.reduceLeDiff, Int.reduceToNat, Int.reduceLT, Int.reduceLE, Int.reduceEq, reduceCtorEq, ↓reduceIte] at g64
      try simp -implicitDefEqProofs only [go_sem, Nat.reduceLT, Nat.reduceAdd, Nat.reduceSub, Nat.reduceMul, Nat.reduceEqDiff, Nat.reduceBEq, Nat.reduceLeDiff, Int.reduceToNat, Int.reduceLT, Int.reduceLE, Int.reduceEq, reduceCtorEq, ↓reduceIte] at g65
      obtain ⟨v88, q86, h⟩ := bnd_some h
      have w87 := e58_3 a1 s48 x50 x61 x1 p6 a0 v88 q86
      simp only [X58_3] at w87
      try simp -implicitDefEqProofs only [go_sem, Nat.reduceLT, Nat.reduceAdd, Nat.reduceSub, Nat.reduceMul, Nat.reduceEqDiff, Nat.reduceBEq, Nat.reduceLeDiff, Int.reduceToNat, Int.reduceLT, Int.reduceLE, Int.reduceEq, reduceCtorEq, ↓reduceIte] at w87
      try simp -implicitDefEqProofs only [go_sem, Nat.reduceLT, Nat.reduceAdd, Nat.reduceSub, Nat.reduceMul, Nat.reduceEqDiff, Nat.reduceBEq, Nat.reduceLeDiff, Int.reduceToNat, Int.reduceLT, Int.reduceLE, Int.reduceEq, reduceCtorEq, ↓reduceIte, E58_1, X58_1, k58_1b, b49, g52, g53, g54, b55, g58, g59, g60, g63, g64, g65, w87]
      cases b89 : (v88 : Bool)
      · replace h := br_f b89 h
        cases h
        simp -implicitDefEqProofs only [go_sem, Nat.reduceLT, Nat.reduceAdd, Nat.reduceSub, Nat.reduceMul, Nat.reduceEqDiff, Nat.reduceBEq, Nat.reduceLeDiff, Int.reduceToNat, Int.reduceLT, Int.reduceLE, Int.reduceEq, reduceCtorEq, ↓reduceIte, E58_1, X58_1, k58_1b, b49, g52, g53, g54, b55, g58, g59, g60, g63, g64, g65, w87, b89]
      · replace h := br_t b89 h
        cases h
        simp -implicitDefEqProofs only [go_sem, Nat.reduceLT, Nat.reduceAdd, Nat.reduceSub, Nat.reduceMul, Nat.reduceEqDiff, Nat.reduceBEq, Nat.reduceLeDiff, Int.reduceToNat, Int.reduceLT, Int.reduceLE, Int.reduceEq, reduceCtorEq, ↓reduceIte, E58_1, X58_1, k58_1b, b49, g52, g53, g54, b55, g58, g59, g60, g63, g64, g65, w87, b89]
    · replace h := br_t b55 h
      cases h
      simp -implicitDefEqProofs only [go_sem, Nat.reduceLT, Nat.reduceAdd, Nat.reduceSub, Nat.reduceMul, Nat.reduceEqDiff, Nat.reduceBEq, Nat.reduceLeDiff, Int.reduceToNat, Int.reduceLT, Int.reduceLE, Int.reduceEq, reduceCtorEq, ↓reduceIte, E58_1, X58_1, k58_1b, b49, g52, g53, g54, b55]
theorem e58_1 (a1 : (List Int)) (x1 : (List (List Int))) (p6 : Int) (a0 : Spp) (s : Int) (o : (Unit ⊕ Int)) (h : loopP (m58_1b a1 x1 p6 a0) s = some o) : evCL T 0 (.loop k58_1b) (E58_1 a1 x1 p6 a0 s).1 (E58_1 a1 x1 p6 a0 s).2 = some (X58_1 a1 x1 p6 a0 o) :=
  loop_walk (E := E58_1 a1 x1 p6 a0) (X := X58_1 a1 x1 p6 a0) (by intro b; rcases b with b | b <;> (simp only [X58_1]; nofun)) (b58_1 a1 x1 p6 a0) s o h
theorem e58 (a0 : Spp) (a1 : (List Int)) (a2 : Int) (r : Int) (h : m58 a0 a1 a2 = some r) : evFL T 58 [.agg [.ts .imm 1 (a0.ranked.map (encLLInt .imm))], .ts .imm 1 (a1.map encInt), .int .i64 a2] [] = some (.int .i64 r, []) := by
  unfold m58 at h
  rw [evFL_at fn58 (Nat.le_of_ble_eq_true rfl) rfl (.inr rfl) ⟨rfl, rfl⟩]
  obtain ⟨x1, q2, h⟩ := bnd_some h
  obtain ⟨g3, g4, g5⟩ := idx_row (encLLInt .imm) q2
  try simp -implicitDefEqProofs only [go_sem, Nat.reduceLT, Nat.reduceAdd, Nat.reduceSub, Nat.reduceMul, Nat.reduceEqDiff, Nat.reduceBEq, Nat.reduceLeDiff, Int.reduceToNat, Int.reduceLT, Int.reduceLE, Int.reduceEq, reduceCtorEq, ↓reduceIte] at g4
  try simp -implicitDefEqProofs only [go_sem, Nat.reduceLT, Nat.reduceAdd, Nat.reduceSub, Nat.reduceMul, Nat.reduceEqDiff, Nat.reduceBEq, Nat.reduceLeDiff, Int.reduceToNat, Int.reduceLT, Int.reduceLE, Int.reduceEq, reduceCtorEq, ↓reduceIte] at g5
  try simp -implicitDefEqProofs only [go_sem, Nat.reduceLT, Nat.reduceAdd, Nat.reduceSub, Nat.reduceMul, Nat.reduceEqDiff, Nat.reduceBEq, Nat.reduceLeDiff, Int.reduceToNat, Int.reduceLT, Int.reduceLE, Int.reduceEq, reduceCtorEq, ↓reduceIte, i58, c58, g3, g4, g5]
  obtain ⟨o, q90, h⟩ := bnd_some h
  rcases o with ⟨⟩ | v92
  · replace h := selS_l h
    have w91 := e58_1 a1 x1 (↑x1.length : Int) a0 0 (.inl ()) q90
    simp only [E58_1, X58_1] at w91
    try simp -implicitDefEqProofs only [go_sem, Nat.reduceLT, Nat.reduceAdd, Nat.reduceSub, Nat.reduceMul, Nat.reduceEqDiff, Nat.reduceBEq, Nat.reduceLeDiff, Int.reduceToNat, Int.reduceLT, Int.reduceLE, Int.reduceEq, reduceCtorEq, ↓reduceIte] at w91
    cases h
    simp -implicitDefEqProofs only [go_sem, Nat.reduceLT, Nat.reduceAdd, Nat.reduceSub, Nat.reduceMul, Nat.reduceEqDiff, Nat.reduceBEq, Nat.reduceLeDiff, Int.reduceToNat, Int.reduceLT, Int.reduceLE, Int.reduceEq, reduceCtorEq, ↓reduceIte, i58, c58, g3, g4, g5, w91]
  · replace h := selS_r h
    have w91 := e58_1 a1 x1 (↑x1.length : Int) a0 0 (.inr v92) q90
    simp only [E58_1, X58_1] at w91
    try simp -implicitDefEqProofs only [go_sem, Nat.reduceLT, Nat.reduceAdd, Nat.reduceSub, Nat.reduceMul, Nat.reduceEqDiff, Nat.reduceBEq, Nat.reduceLeDiff, Int.reduceToNat, Int.reduceLT, Int.reduceLE, Int.reduceEq, reduceCtorEq, ↓reduceIte] at w91
    cases h
    simp -implicitDefEqProofs only [go_sem, Nat.reduceLT, Nat.reduceAdd, Nat.reduceSub, Nat.reduceMul, Nat.reduceEqDiff, Nat.reduceBEq, Nat.reduceLeDiff, Int.reduceToNat, Int.reduceLT, Int.reduceLE, Int.reduceEq, reduceCtorEq, ↓reduceIte, i58, c58, g3, g4, g5, w91]
-- f61 spec.l10Stable
theorem call61 (args : List AV) (S : St) : evCall T (evFL T) 61 args S = lendC (evFL T 61) S (lendAll S [[1], [1]] args) := evCall0 fn61 rfl rfl rfl args S
theorem callz61 (args : List AV) (S : St) : evCallFz T (evFL T) 61 args S = lendZ (evFL T 61) S [[0]] (lendAll S [[1], [1]] args) := evCallFz0 fn61 rfl rfl rfl args S
theorem calls61 (args : List AV) (S : St) : evCall (T.at true) (evFL T) 61 args S = lendC (evFL T 61) S (lendAll S [[1], [1]] args) := evCall0 fns61 rfl rfl rfl args S
theorem callsz61 (args : List AV) (S : St) : evCallFz (T.at true) (evFL T) 61 args S = lendZ (evFL T 61) S [[0]] (lendAll S [[1], [1]] args) := evCallFz0 fns61 rfl rfl rfl args S
attribute [go_sem] call61 callz61 calls61 callsz61
noncomputable def X61_1 (a1 : (List Int)) (p1 : Int) (a0 : Spp) (o : (Unit ⊕ Unit)) : Ex × Fr × St :=
  match o with
  | .inl o => (.exit 0, frOf 22 (anyF), [])
  | .inr o => (.ret, frOf 22 (upd anyF 4 (.bool false)), [])
noncomputable def E61_1 (a1 : (List Int)) (p1 : Int) (a0 : Spp) (s : Int) : Fr × St := (frOf 22 (upd (upd (upd (upd (upd anyF 1 (.ts .imm 1 (a1.map encInt))) 2 (.ptr 0 0 0)) 7 (.ts .imm 1 (a1.map encInt))) 8 (.int .i64 p1)) 9 (.int .i64 s)), [some ⟨.box, 1, [[.ts .imm 1 (a0.ranked.map (encLLInt .imm))]]⟩])
theorem b61_1 (a1 : (List Int)) (p1 : Int) (a0 : Spp) (s : Int) (o : Ctl Int (Unit ⊕ Unit)) (h : m61_1b a1 p1 a0 s = some o) : evCL T 0 k61_1b (E61_1 a1 p1 a0 s).1 (E61_1 a1 p1 a0 s).2 = some (ctlX (E61_1 a1 p1 a0) (X61_1 a1 p1 a0) o) := by
  unfold m61_1b at h
  revert h
  generalize s = s12
  intro h
  try simp -implicitDefEqProofs only [go_sem, Nat.reduceLT, Nat.reduceAdd, Nat.reduceSub, Nat.reduceMul, Nat.reduceEqDiff, Nat.reduceBEq, Nat.reduceLeDiff, Int.reduceToNat, Int.reduceLT, Int.reduceLE, Int.reduceEq, reduceCtorEq, ↓reduceIte, E61_1, X61_1, k61_1b]
  cases b13 : (ltI s12 p1 : Bool)
  · replace h := br_f b13 h
    cases h
    simp -implicitDefEqProofs only [go_sem, Nat.reduceLT, Nat.reduceAdd, Nat.reduceSub, Nat.reduceMul, Nat.reduceEqDiff, Nat.reduceBEq, Nat.reduceLeDiff, Int.reduceToNat, Int.reduceLT, Int.reduceLE, Int.reduceEq, reduceCtorEq, ↓reduceIte, E61_1, X61_1, k61_1b, b13]
  · replace h := br_t b13 h
    obtain ⟨x14, q15, h⟩ := bnd_some h
    obtain ⟨g16, g17, g18⟩ := idx_row encInt q15
    try simp -implicitDefEqProofs only [go_sem, Nat.reduceLT, Nat.reduceAdd, Nat.reduceSub, Nat.reduceMul, Nat.reduceEqDiff, Nat.reduceBEq, Nat.reduceLeDiff, Int.reduceToNat, Int.reduceLT, Int.reduceLE, Int.reduceEq, reduceCtorEq, ↓reduceIte] at g17
    try simp -implicitDefEqProofs only [go_sem, Nat.reduceLT, Nat.reduceAdd, Nat.reduceSub, Nat.reduceMul, Nat.reduceEqDiff, Nat.reduceBEq, Nat.reduceLeDiff, Int.reduceToNat, Int.reduceLT, Int.reduceLE, Int.reduceEq, reduceCtorEq, ↓reduceIte] at g18
    obtain ⟨r21, q19, h⟩ := bnd_some h
    have w20 := e58 a0 a1 (wadd .i64 s12 1) r21 q19
    try simp -implicitDefEqProofs only [go_sem, Nat.reduceLT, Nat.reduceAdd, Nat.reduceSub, Nat.reduceMul, Nat.reduceEqDiff, Nat.reduceBEq, Nat.reduceLeDiff, Int.reduceToNat, Int.reduceLT, Int.reduceLE, Int.reduceEq, reduceCtorEq, ↓reduceIte] at w20
    try simp -implicitDefEqProofs only [go_sem, Nat.reduceLT, Nat.reduceAdd, Nat.reduceSub, Nat.reduceMul, Nat.reduceEqDiff, Nat.reduceBEq, Nat.reduceLeDiff, Int.reduceToNat, Int.reduceLT, Int.reduceLE, Int.reduceEq, reduceCtorEq, ↓reduceIte, E61_1, X61_1, k61_1b, b13, g16, g17, g18, w20]
    cases b22 : (eqI r21 x14 : Bool)
    · replace h := br_f b22 h
      cases h
      simp -implicitDefEqProofs only [go_sem, Nat.reduceLT, Nat.reduceAdd, Nat.reduceSub, Nat.reduceMul, Nat.reduceEqDiff, Nat.reduceBEq, Nat.reduceLeDiff, Int.reduceToNat, Int.reduceLT, Int.reduceLE, Int.reduceEq, reduceCtorEq, ↓reduceIte, E61_1, X61_1, k61_1b, b13, g16, g17, g18, w20, b22]
    · replace h := br_t b22 h
      cases h
      simp -implicitDefEqProofs only [go_sem, Nat.reduceLT, Nat.reduceAdd, Nat.reduceSub, Nat.reduceMul, Nat.reduceEqDiff, Nat.reduceBEq, Nat.reduceLeDiff, Int.reduceToNat, Int.reduceLT, Int.reduceLE, Int.reduceEq, reduceCtorEq, ↓reduceIte, E61_1, X61_1, k61_1b, b13, g16, g17, g18, w20, b22]
theorem e61_1 (a1 : (List Int)) (p1 : Int) (a0 : Spp) (s : Int) (o : (Unit ⊕ Unit)) (h : loopP (m61_1b a1 p1 a0) s = some o) : evCL T 0 (.loop k61_1b) (E61_1 a1 p1 a0 s).1 (E61_1 a1 p1 a0 s).2 = some (X61_1 a1 p1 a0 o) :=
  loop_walk (E := E61_1 a1 p1 a0) (X := X61_1 a1 p1 a0) (by intro b; rcases b with b | b <;> (simp only [X61_1]; nofun)) (b61_1 a1 p1 a0) s o h
theorem e61 (a0 : Spp) (a1 : (List Int)) (r : Bool) (h : m61 a0 a1 = some r) : evFL T 61 [.agg [.ts .imm 1 (a0.ranked.map (encLLInt .imm))], .ts .imm 1 (a1.map encInt)] [] = some (.bool r, []) := by
  unfold m61 at h
  rw [evFL_at fn61 (Nat.le_of_ble_eq_true rfl) rfl (.inr rfl) ⟨rfl, rfl⟩]
  try simp -implicitDefEqProofs only [go_sem, Nat.reduceLT, Nat.reduceAdd, Nat.reduceSub, Nat.reduceMul, Nat.reduceEqDiff, Nat.reduceBEq, Nat.reduceLeDiff, Int.reduceToNat, Int.reduceLT, Int.reduceLE, Int.reduceEq, reduceCtorEq, ↓reduceIte, i61, c61]
  obtain ⟨o, q23, h⟩ := bnd_some h
  rcases o with ⟨⟩ | ⟨⟩
  · replace h := selS_l h
    have w24 := e61_1 a1 (↑a1.length : Int) a0 0 (.inl ()) q23
    simp only [E61_1, X61_1] at w24
    try simp -implicitDefEqProofs only [go_sem, Nat.reduceLT, Nat.reduceAdd, Nat.reduceSub, Nat.reduceMul, Nat.reduceEqDiff, Nat.reduceBEq, Nat.reduceLeDiff, Int.reduceToNat, Int.reduceLT, Int.reduceLE, Int.reduceEq, reduceCtorEq, ↓reduceIte] at w24
    cases h
    simp -implicitDefEqProofs only [go_sem, Nat.reduceLT, Nat.reduceAdd, Nat.reduceSub, Nat.reduceMul, Nat.reduceEqDiff, Nat.reduceBEq, Nat.reduceLeDiff, Int.reduceToNat, Int.reduceLT, Int.reduceLE, Int.reduceEq, reduceCtorEq, ↓reduceIte, i61, c61, w24]
  · replace h := selS_r h
    have w24 := e61_1 a1 (↑a1.length : Int) a0 0 (.inr ()) q23
    simp only [E61_1, X61_1] at w24
    try simp -implicitDefEqProofs only [go_sem, Nat.reduceLT, Nat.reduceAdd, Nat.reduceSub, Nat.reduceMul, Nat.reduceEqDiff, Nat.reduceBEq, Nat.reduceLeDiff, Int.reduceToNat, Int.reduceLT, Int.reduceLE, Int.reduceEq, reduceCtorEq, ↓reduceIte] at w24
    cases h
    simp -implicitDefEqProofs only [go_sem, Nat.reduceLT, Nat.reduceAdd, Nat.reduceSub, Nat.reduceMul, Nat.reduceEqDiff, Nat.reduceBEq, Nat.reduceLeDiff, Int.reduceToNat, Int.reduceLT, Int.reduceLE, Int.reduceEq, reduceCtorEq, ↓reduceIte, i61, c61, w24]
-- f73 spec.l10Ones
theorem call73 (args : List AV) (S : St) : evCall T (evFL T) 73 args S = c3A true true (evFL T 73) (rawAll S [[1], [1], [1]] args) := evCall3_g fn73 rfl (fun h => absurd h.1 (by decide)) args S
theorem calls73 (args : List AV) (S : St) : evCall (T.at true) (evFL T) 73 args S = c3A false true (evFL T 73) (rawAll S [[1], [1], [1]] args) := evCall3_g fns73 rfl (fun h => absurd h.1 (by decide)) args S
attribute [go_sem] call73 calls73
noncomputable def X73_1 (r4 : Bool) (a1 : (List Int)) (a2 : (List (List Int))) (o : (List (List Int))) : Ex × Fr × St :=
  (.normal, frOf 45 (upd anyF 2 (.sl 2 0 o.length)), [none, none, some ⟨.arr, 1, o.map (encLInt .own)⟩])
theorem e73_1 (rc : Spp → (List Int) → (List (List Int)) → Option (List (List Int))) (hrc : ∀ (a0 : Spp) (a1 : (List Int)) (a2 : (List (List Int))) (r : List (List Int)), rc a0 a1 a2 = some r → evFL T 73 [.agg [.ts .imm 1 (a0.ranked.map (encLLInt .imm))], .sl 0 0 a1.length, .sl 1 0 a2.length] [some ⟨.arr, 1, a1.map encInt⟩, some ⟨.arr, 1, a2.map (encLInt .own)⟩] = some (.sl 2 0 r.length, [none, none, some ⟨.arr, 1, r.map (encLInt .own)⟩])) (r4 : Bool) (a1 : (List Int)) (a2 : (List (List Int))) (o : (List (List Int))) (h : m73_1 rc r4 a1 a2 = some o) : evCL T 2 k73_1 (frOf 45 (upd (upd (upd anyF 1 (.sl 2 0 a1.length)) 2 (.sl 3 0 a2.length)) 16 (.bool r4))) [none, none, some ⟨.arr, 1, a1.map encInt⟩, some ⟨.arr, 1, a2.map (encLInt .own)⟩] = some (X73_1 r4 a1 a2 o) := by
  unfold m73_1 at h
  try simp -implicitDefEqProofs only [go_sem, Nat.reduceLT, Nat.reduceAdd, Nat.reduceSub, Nat.reduceMul, Nat.reduceEqDiff, Nat.reduceBEq, Nat.reduceLeDiff, Int.reduceToNat, Int.reduceLT, Int.reduceLE, Int.reduceEq, reduceCtorEq, ↓reduceIte, X73_1, k73_1]
  cases b5 : (r4 : Bool)
  · replace h := br_f b5 h
    cases h
    simp -implicitDefEqProofs only [go_sem, Nat.reduceLT, Nat.reduceAdd, Nat.reduceSub, Nat.reduceMul, Nat.reduceEqDiff, Nat.reduceBEq, Nat.reduceLeDiff, Int.reduceToNat, Int.reduceLT, Int.reduceLE, Int.reduceEq, reduceCtorEq, ↓reduceIte, X73_1, k73_1, b5]
  · replace h := br_t b5 h
    obtain ⟨g6, h⟩ := ck_some h
    try simp -implicitDefEqProofs only [go_sem, Nat.reduceLT, Nat.reduceAdd, Nat.reduceSub, Nat.reduceMul, Nat.reduceEqDiff, Nat.reduceBEq, Nat.reduceLeDiff, Int.reduceToNat, Int.reduceLT, Int.reduceLE, Int.reduceEq, reduceCtorEq, ↓reduceIte] at g6
    obtain ⟨g7, h⟩ := ck_some h
    try simp -implicitDefEqProofs only [go_sem, Nat.reduceLT, Nat.reduceAdd, Nat.reduceSub, Nat.reduceMul, Nat.reduceEqDiff, Nat.reduceBEq, Nat.reduceLeDiff, Int.reduceToNat, Int.reduceLT, Int.reduceLE, Int.reduceEq, reduceCtorEq, ↓reduceIte] at g7
    cases h
    simp -implicitDefEqProofs only [go_sem, Nat.reduceLT, Nat.reduceAdd, Nat.reduceSub, Nat.reduceMul, Nat.reduceEqDiff, Nat.reduceBEq, Nat.reduceLeDiff, Int.reduceToNat, Int.reduceLT, Int.reduceLE, Int.reduceEq, reduceCtorEq, ↓reduceIte, X73_1, k73_1, b5, g6, g7]
noncomputable def X73_2 (a1 : (List Int)) (a0 : Spp) (o : (List (List Int))) : Ex × Fr × St :=
  (.exit 0, frOf 45 (upd anyF 2 (.sl 2 0 o.length)), [none, none, some ⟨.arr, 1, o.map (encLInt .own)⟩])
noncomputable def E73_2 (a1 : (List Int)) (a0 : Spp) (s : (Int × List (List Int))) : Fr × St := (frOf 45 (upd (upd (upd (upd anyF 1 (.sl 2 0 a1.length)) 2 (.sl 3 0 s.2.length)) 3 (.ptr 4 0 0)) 7 (.int .i64 s.1)), [none, none, some ⟨.arr, 1, a1.map encInt⟩, some ⟨.arr, 1, s.2.map (encLInt .own)⟩, some ⟨.box, 1, [[.ts .imm 1 (a0.ranked.map (encLLInt .imm))]]⟩])
theorem b73_2 (rc : Spp → (List Int) → (List (List Int)) → Option (List (List Int))) (hrc : ∀ (a0 : Spp) (a1 : (List Int)) (a2 : (List (List Int))) (r : List (List Int)), rc a0 a1 a2 = some r → evFL T 73 [.agg [.ts .imm 1 (a0.ranked.map (encLLInt .imm))], .sl 0 0 a1.length, .sl 1 0 a2.length] [some ⟨.arr, 1, a1.map encInt⟩, some ⟨.arr, 1, a2.map (encLInt .own)⟩] = some (.sl 2 0 r.length, [none, none, some ⟨.arr, 1, r.map (encLInt .own)⟩])) (a1 : (List Int)) (a0 : Spp) (s : (Int × List (List Int))) (o : Ctl (Int × List (List Int)) (List (List Int))) (h : m73_2b rc a1 a0 s = some o) : evCL T 2 k73_2b (E73_2 a1 a0 s).1 (E73_2 a1 a0 s).2 = some (ctlX (E73_2 a1 a0) (X73_2 a1 a0) o) := by
  unfold m73_2b at h
  obtain ⟨s22, s23⟩ := s
  replace h := sel2_some h
  obtain ⟨x24, q25, h⟩ := bnd_some h
  obtain ⟨g26, g27, g28⟩ := idx_row (encLLInt .imm) q25
  try simp -implicitDefEqProofs only [go_sem, Nat.reduceLT, Nat.reduceAdd, Nat.reduceSub, Nat.reduceMul, Nat.reduceEqDiff, Nat.reduceBEq, Nat.reduceLeDiff, Int.reduceToNat, Int.reduceLT, Int.reduceLE, Int.reduceEq, reduceCtorEq, ↓reduceIte] at g27
  try simp -implicitDefEqProofs only [go_sem, Nat.reduceLT, Nat.reduceAdd, Nat.reduceSub, Nat.reduceMul, Nat.reduceEqDiff, Nat.reduceBEq, Nat.reduceLeDiff, Int.reduceToNat, Int.reduceLT, Int.reduceLE, Int.reduceEq, reduceCtorEq, ↓reduceIte] at g28
  try simp -implicitDefEqProofs only [go_sem, Nat.reduceLT, Nat.reduceAdd, Nat.reduceSub, Nat.reduceMul, Nat.reduceEqDiff, Nat.reduceBEq, Nat.reduceLeDiff, Int.reduceToNat, Int.reduceLT, Int.reduceLE, Int.reduceEq, reduceCtorEq, ↓reduceIte, E73_2, X73_2, k73_2b, g26, g27, g28]
  cases b29 : (ltI s22 (↑x24.length : Int) : Bool)
  · replace h := br_f b29 h
    cases h
    simp -implicitDefEqProofs only [go_sem, Nat.reduceLT, Nat.reduceAdd, Nat.reduceSub, Nat.reduceMul, Nat.reduceEqDiff, Nat.reduceBEq, Nat.reduceLeDiff, Int.reduceToNat, Int.reduceLT, Int.reduceLE, Int.reduceEq, reduceCtorEq, ↓reduceIte, E73_2, X73_2, k73_2b, g26, g27, g28, b29]
  · replace h := br_t b29 h
    obtain ⟨g30, h⟩ := ck_some h
    try simp -implicitDefEqProofs only [go_sem, Nat.reduceLT, Nat.reduceAdd, Nat.reduceSub, Nat.reduceMul, Nat.reduceEqDiff, Nat.reduceBEq, Nat.reduceLeDiff, Int.reduceToNat, Int.reduceLT, Int.reduceLE, Int.reduceEq, reduceCtorEq, ↓reduceIte] at g30
    obtain ⟨g31, h⟩ := ck_some h
    try simp -implicitDefEqProofs only [go_sem, Nat.reduceLT, Nat.reduceAdd, Nat.reduceSub, Nat.reduceMul, Nat.reduceEqDiff, Nat.reduceBEq, Nat.reduceLeDiff, Int.reduceToNat, Int.reduceLT, Int.reduceLE, Int.reduceEq, reduceCtorEq, ↓reduceIte] at g31
    obtain ⟨r34, q32, h⟩ := bnd_some h
    have w33 := hrc a0 (a1 ++ [s22]) s23 r34 q32
    try simp -implicitDefEqProofs only [go_sem, Nat.reduceLT, Nat.reduceAdd, Nat.reduceSub, Nat.reduceMul, Nat.reduceEqDiff, Nat.reduceBEq, Nat.reduceLeDiff, Int.reduceToNat, Int.reduceLT, Int.reduceLE, Int.reduceEq, reduceCtorEq, ↓reduceIte] at w33
    cases h
    simp -implicitDefEqProofs only [go_sem, Nat.reduceLT, Nat.reduceAdd, Nat.reduceSub, Nat.reduceMul, Nat.reduceEqDiff, Nat.reduceBEq, Nat.reduceLeDiff, Int.reduceToNat, Int.reduceLT, Int.reduceLE, Int.reduceEq, reduceCtorEq, ↓reduceIte, E73_2, X73_2, k73_2b, g26, g27, g28, b29, g30, g31, w33]
theorem e73_2 (rc : Spp → (List Int) → (List (List Int)) → Option (List (List Int))) (hrc : ∀ (a0 : Spp) (a1 : (List Int)) (a2 : (List (List Int))) (r : List (List Int)), rc a0 a1 a2 = some r → evFL T 73 [.agg [.ts .imm 1 (a0.ranked.map (encLLInt .imm))], .sl 0 0 a1.length, .sl 1 0 a2.length] [some ⟨.arr, 1, a1.map encInt⟩, some ⟨.arr, 1, a2.map (encLInt .own)⟩] = some (.sl 2 0 r.length, [none, none, some ⟨.arr, 1, r.map (encLInt .own)⟩])) (a1 : (List Int)) (a0 : Spp) (s : (Int × List (List Int))) (o : (List (List Int))) (h : loopP (m73_2b rc a1 a0) s = some o) : evCL T 2 (.loop k73_2b) (E73_2 a1 a0 s).1 (E73_2 a1 a0 s).2 = some (X73_2 a1 a0 o) :=
  loop_walk (E := E73_2 a1 a0) (X := X73_2 a1 a0) (by intro b; (simp only [X73_2]; nofun)) (b73_2 rc hrc a1 a0) s o h
theorem e73r (rc : Spp → (List Int) → (List (List Int)) → Option (List (List Int))) (hrc : ∀ (a0 : Spp) (a1 : (List Int)) (a2 : (List (List Int))) (r : List (List Int)), rc a0 a1 a2 = some r → evFL T 73 [.agg [.ts .imm 1 (a0.ranked.map (encLLInt .imm))], .sl 0 0 a1.length, .sl 1 0 a2.length] [some ⟨.arr, 1, a1.map encInt⟩, some ⟨.arr, 1, a2.map (encLInt .own)⟩] = some (.sl 2 0 r.length, [none, none, some ⟨.arr, 1, r.map (encLInt .own)⟩])) (a0 : Spp) (a1 : (List Int)) (a2 : (List (List Int))) (r : List (List Int)) (h : m73r rc a0 a1 a2 = some r) : evFL T 73 [.agg [.ts .imm 1 (a0.ranked.map (encLLInt .imm))], .sl 0 0 a1.length, .sl 1 0 a2.length] [some ⟨.arr, 1, a1.map encInt⟩, some ⟨.arr, 1, a2.map (encLInt .own)⟩] = some (.sl 2 0 r.length, [none, none, some ⟨.arr, 1, r.map (encLInt .own)⟩]) := by
  unfold m73r at h
  rw [evFL_at fn73 (Nat.le_of_ble_eq_true rfl) rfl (.inl rfl) ⟨rfl, rfl⟩]
  try simp -implicitDefEqProofs only [go_sem, Nat.reduceLT, Nat.reduceAdd, Nat.reduceSub, Nat.reduceMul, Nat.reduceEqDiff, Nat.reduceBEq, Nat.reduceLeDiff, Int.reduceToNat, Int.reduceLT, Int.reduceLE, Int.reduceEq, reduceCtorEq, ↓reduceIte, i73, c73]
  cases b1 : (eqI (↑a1.length : Int) (↑a0.ranked.length : Int) : Bool)
  · replace h := br_f b1 h
    obtain ⟨v37, q35, h⟩ := bnd_some h
    have w36 := e73_2 rc hrc a1 a0 ((-1), a2) v37 q35
    simp only [E73_2, X73_2] at w36
    try simp -implicitDefEqProofs only [go_sem, Nat.reduceLT, Nat.reduceAdd, Nat.reduceSub, Nat.reduceMul, Nat.reduceEqDiff, Nat.reduceBEq, Nat.reduceLeDiff, Int.reduceToNat, Int.reduceLT, Int.reduceLE, Int.reduceEq, reduceCtorEq, ↓reduceIte] at w36
    cases h
    simp -implicitDefEqProofs only [go_sem, Nat.reduceLT, Nat.reduceAdd, Nat.reduceSub, Nat.reduceMul, Nat.reduceEqDiff, Nat.reduceBEq, Nat.reduceLeDiff, Int.reduceToNat, Int.reduceLT, Int.reduceLE, Int.reduceEq, reduceCtorEq, ↓reduceIte, i73, c73, b1, w36]
  · replace h := br_t b1 h
    obtain ⟨r4, q2, h⟩ := bnd_some h
    have w3 := e61 a0 a1 r4 q2
    try simp -implicitDefEqProofs only [go_sem, Nat.reduceLT, Nat.reduceAdd, Nat.reduceSub, Nat.reduceMul, Nat.reduceEqDiff, Nat.reduceBEq, Nat.reduceLeDiff, Int.reduceToNat, Int.reduceLT, Int.reduceLE, Int.reduceEq, reduceCtorEq, ↓reduceIte] at w3
    obtain ⟨v10, q8, h⟩ := bnd_some h
    have w9 := e73_1 rc hrc r4 a1 a2 v10 q8
    simp only [X73_1] at w9
    try simp -implicitDefEqProofs only [go_sem, Nat.reduceLT, Nat.reduceAdd, Nat.reduceSub, Nat.reduceMul, Nat.reduceEqDiff, Nat.reduceBEq, Nat.reduceLeDiff, Int.reduceToNat, Int.reduceLT, Int.reduceLE, Int.reduceEq, reduceCtorEq, ↓reduceIte] at w9
    cases h
    simp -implicitDefEqProofs only [go_sem, Nat.reduceLT, Nat.reduceAdd, Nat.reduceSub, Nat.reduceMul, Nat.reduceEqDiff, Nat.reduceBEq, Nat.reduceLeDiff, Int.reduceToNat, Int.reduceLT, Int.reduceLE, Int.reduceEq, reduceCtorEq, ↓reduceIte, i73, c73, b1, w3, w9]
theorem e73k : ∀ (k : Nat) (a0 : Spp) (a1 : (List Int)) (a2 : (List (List Int))) (r : List (List Int)) (h : m73k k a0 a1 a2 = some r), evFL T 73 [.agg [.ts .imm 1 (a0.ranked.map (encLLInt .imm))], .sl 0 0 a1.length, .sl 1 0 a2.length] [some ⟨.arr, 1, a1.map encInt⟩, some ⟨.arr, 1, a2.map (encLInt .own)⟩] = some (.sl 2 0 r.length, [none, none, some ⟨.arr, 1, r.map (encLInt .own)⟩]) := by
  intro k
  induction k with
  | zero => intro a0 a1 a2 r h; cases h
  | succ k ih => intro a0 a1 a2 r h; exact e73r (m73k k) (fun a0 a1 a2 r h => ih a0 a1 a2 r h) a0 a1 a2 r h
theorem e73 (a0 : Spp) (a1 : (List Int)) (a2 : (List (List Int))) (r : List (List Int)) (h : m73 a0 a1 a2 = some r) : evFL T 73 [.agg [.ts .imm 1 (a0.ranked.map (encLLInt .imm))], .sl 0 0 a1.length, .sl 1 0 a2.length] [some ⟨.arr, 1, a1.map encInt⟩, some ⟨.arr, 1, a2.map (encLInt .own)⟩] = some (.sl 2 0 r.length, [none, none, some ⟨.arr, 1, r.map (encLInt .own)⟩]) := by
  obtain ⟨N, hN⟩ := limO_iff.1 h
  exact e73k N a0 a1 a2 r (hN N (Nat.le_refl N))
-- f31 spec.StableOnes
theorem call31 (args : List AV) (S : St) : evCall T (evFL T) 31 args S = lendC (evFL T 31) S (lendAll S [[1]] args) := evCall0 fn31 rfl rfl rfl args S
theorem callz31 (args : List AV) (S : St) : evCallFz T (evFL T) 31 args S = lendZ (evFL T 31) S [[1], [0]] (lendAll S [[1]] args) := evCallFz0 fn31 rfl rfl rfl args S
theorem calls31 (args : List AV) (S : St) : evCall (T.at true) (evFL T) 31 args S = lendC (evFL T 31) S (lendAll S [[1]] args) := evCall0 fns31 rfl rfl rfl args S
theorem callsz31 (args : List AV) (S : St) : evCallFz (T.at true) (evFL T) 31 args S = lendZ (evFL T 31) S [[1], [0]] (lendAll S [[1]] args) := evCallFz0 fns31 rfl rfl rfl args S
attribute [go_sem] call31 callz31 calls31 callsz31
theorem e31 (a0 : Spp) (r : ((List (List Int)) × Bool)) (h : m31 a0 = some r) : evFL T 31 [.agg [.ts .imm 1 (a0.ranked.map (encLLInt .imm))]] [] = some (.tup [.sl 0 0 r.1.length, .bool r.2], [some ⟨.arr, 1, r.1.map (encLInt .own)⟩]) := by
  unfold m31 at h
  rw [evFL_at fn31 (Nat.le_of_ble_eq_true rfl) rfl (.inr rfl) ⟨rfl, rfl⟩]
  obtain ⟨r3, q1, h⟩ := bnd_some h
  have w2 := e14 a0 r3 q1
  try simp -implicitDefEqProofs only [go_sem, Nat.reduceLT, Nat.reduceAdd, Nat.reduceSub, Nat.reduceMul, Nat.reduceEqDiff, Nat.reduceBEq, Nat.reduceLeDiff, Int.reduceToNat, Int.reduceLT, Int.reduceLE, Int.reduceEq, reduceCtorEq, ↓reduceIte] at w2
  try simp -implicitDefEqProofs only [go_sem, Nat.reduceLT, Nat.reduceAdd, Nat.reduceSub, Nat.reduceMul, Nat.reduceEqDiff, Nat.reduceBEq, Nat.reduceLeDiff, Int.reduceToNat, Int.reduceLT, Int.reduceLE, Int.reduceEq, reduceCtorEq, ↓reduceIte, i31, c31, w2]
  cases b4 : (r3 : Bool)
  · replace h := br_f b4 h
    cases h
    simp -implicitDefEqProofs only [go_sem, Nat.reduceLT, Nat.reduceAdd, Nat.reduceSub, Nat.reduceMul, Nat.reduceEqDiff, Nat.reduceBEq, Nat.reduceLeDiff, Int.reduceToNat, Int.reduceLT, Int.reduceLE, Int.reduceEq, reduceCtorEq, ↓reduceIte, i31, c31, w2, b4]
  · replace h := br_t b4 h
    obtain ⟨r7, q5, h⟩ := bnd_some h
    have w6 := e73 a0 [] [] r7 q5
    try simp -implicitDefEqProofs only [go_sem, Nat.reduceLT, Nat.reduceAdd, Nat.reduceSub, Nat.reduceMul, Nat.reduceEqDiff, Nat.reduceBEq, Nat.reduceLeDiff, Int.reduceToNat, Int.reduceLT, Int.reduceLE, Int.reduceEq, reduceCtorEq, ↓reduceIte] at w6
    cases h
    simp -implicitDefEqProofs only [go_sem, Nat.reduceLT, Nat.reduceAdd, Nat.reduceSub, Nat.reduceMul, Nat.reduceEqDiff, Nat.reduceBEq, Nat.reduceLeDiff, Int.reduceToNat, Int.reduceLT, Int.reduceLE, Int.reduceEq, reduceCtorEq, ↓reduceIte, i31, c31, w2, b4, w6]
-- f51 impl.within
theorem call51 (args : List AV) (S : St) : evCall T (evFL T) 51 args S = lendC (evFL T 51) S (lendAll S [[0], [0], [0]] args) := evCall0 fn51 rfl rfl rfl args S
theorem callz51 (args : List AV) (S : St) : evCallFz T (evFL T) 51 args S = lendZ (evFL T 51) S [[0]] (lendAll S [[0], [0], [0]] args) := evCallFz0 fn51 rfl rfl rfl args S
theorem calls51 (args : List AV) (S : St) : evCall (T.at true) (evFL T) 51 args S = lendC (evFL T 51) S (lendAll S [[0], [0], [0]] args) := evCall0 fns51 rfl rfl rfl args S
theorem callsz51 (args : List AV) (S : St) : evCallFz (T.at true) (evFL T) 51 args S = lendZ (evFL T 51) S [[0]] (lendAll S [[0], [0], [0]] args) := evCallFz0 fns51 rfl rfl rfl args S
attribute [go_sem] call51 callz51 calls51 callsz51
noncomputable def X51_1 (a0 : Int) (a1 : Int) (a2 : Int) (o : Bool) : Ex × Fr × St :=
  (.normal, frOf 15 (upd anyF 6 (.bool o)), [])
theorem e51_1 (a0 : Int) (a1 : Int) (a2 : Int) (o : Bool) (h : m51_1 a0 a1 a2 = some o) : evCL T 0 k51_1 (frOf 15 (upd (upd (upd anyF 0 (.int .i64 a0)) 1 (.int .i64 a1)) 2 (.int .i64 a2))) [] = some (X51_1 a0 a1 a2 o) := by
  unfold m51_1 at h
  try simp -implicitDefEqProofs only [go_sem, Nat.reduceLT, Nat.reduceAdd, Nat.reduceSub, Nat.reduceMul, Nat.reduceEqDiff, Nat.reduceBEq, Nat.reduceLeDiff, Int.reduceToNat, Int.reduceLT, Int.reduceLE, Int.reduceEq, reduceCtorEq, ↓reduceIte, X51_1, k51_1]
  cases b1 : (leI a1 a0 : Bool)
  · replace h := br_f b1 h
    cases h
    simp -implicitDefEqProofs only [go_sem, Nat.reduceLT, Nat.reduceAdd, Nat.reduceSub, Nat.reduceMul, Nat.reduceEqDiff, Nat.reduceBEq, Nat.reduceLeDiff, Int.reduceToNat, Int.reduceLT, Int.reduceLE, Int.reduceEq, reduceCtorEq, ↓reduceIte, X51_1, k51_1, b1]
  · replace h := br_t b1 h
    cases h
    simp -implicitDefEqProofs only [go_sem, Nat.reduceLT, Nat.reduceAdd, Nat.reduceSub, Nat.reduceMul, Nat.reduceEqDiff, Nat.reduceBEq, Nat.reduceLeDiff, Int.reduceToNat, Int.reduceLT, Int.reduceLE, Int.reduceEq, reduceCtorEq, ↓reduceIte, X51_1, k51_1, b1]
theorem e51 (a0 : Int) (a1 : Int) (a2 : Int) (r : Bool) (h : m51 a0 a1 a2 = some r) : evFL T 51 [.int .i64 a0, .int .i64 a1, .int .i64 a2] [] = some (.bool r, []) := by
  unfold m51 at h
  rw [evFL_at fn51 (Nat.le_of_ble_eq_true rfl) rfl (.inr rfl) ⟨rfl, rfl⟩]
  obtain ⟨v4, q2, h⟩ := bnd_some h
  have w3 := e51_1 a0 a1 a2 v4 q2
  simp only [X51_1] at w3
  try simp -implicitDefEqProofs only [go_sem, Nat.reduceLT, Nat.reduceAdd, Nat.reduceSub, Nat.reduceMul, Nat.reduceEqDiff, Nat.reduceBEq, Nat.reduceLeDiff, Int.reduceToNat, Int.reduceLT, Int.reduceLE, Int.reduceEq, reduceCtorEq, ↓reduceIte] at w3
  cases h
  simp -implicitDefEqProofs only [go_sem, Nat.reduceLT, Nat.reduceAdd, Nat.reduceSub, Nat.reduceMul, Nat.reduceEqDiff, Nat.reduceBEq, Nat.reduceLeDiff, Int.reduceToNat, Int.reduceLT, Int.reduceLE, Int.reduceEq, reduceCtorEq, ↓reduceIte, i51, c51, w3]
-- f101 slices.Index[[]int,int]
theorem call101 (args : List AV) (S : St) : evCall T (evFL T) 101 args S = lendC (evFL T 101) S (lendAll S [[1], [0]] args) := evCall0 fn101 rfl rfl rfl args S
theorem callz101 (args : List AV) (S : St) : evCallFz T (evFL T) 101 args S = lendZ (evFL T 101) S [[0]] (lendAll S [[1], [0]] args) := evCallFz0 fn101 rfl rfl rfl args S
theorem calls101 (args : List AV) (S : St) : evCall (T.at true) (evFL T) 101 args S = lendC (evFL T 101) S (lendAll S [[1], [0]] args) := evCall0 fns101 rfl rfl rfl args S
theorem callsz101 (args : List AV) (S : St) : evCallFz (T.at true) (evFL T) 101 args S = lendZ (evFL T 101) S [[0]] (lendAll S [[1], [0]] args) := evCallFz0 fns101 rfl rfl rfl args S
attribute [go_sem] call101 callz101 calls101 callsz101
noncomputable def X101_1 (a0 : (List Int)) (a1 : Int) (p1 : Int) (o : (Unit ⊕ Int)) : Ex × Fr × St :=
  match o with
  | .inl o => (.exit 0, frOf 19 (anyF), [])
  | .inr o => (.ret, frOf 19 (upd anyF 4 (.int .i64 o)), [])
noncomputable def E101_1 (a0 : (List Int)) (a1 : Int) (p1 : Int) (s : Int) : Fr × St := (frOf 19 (upd (upd (upd (upd anyF 0 (.ts .imm 1 (a0.map encInt))) 1 (.int .i64 a1)) 7 (.int .i64 p1)) 8 (.int .i64 s)), [])
theorem b101_1 (a0 : (List Int)) (a1 : Int) (p1 : Int) (s : Int) (o : Ctl Int (Unit ⊕ Int)) (h : m101_1b a0 a1 p1 s = some o) : evCL T 0 k101_1b (E101_1 a0 a1 p1 s).1 (E101_1 a0 a1 p1 s).2 = some (ctlX (E101_1 a0 a1 p1) (X101_1 a0 a1 p1) o) := by
  unfold m101_1b at h
  revert h
  generalize s = s9
  intro h
  try simp -implicitDefEqProofs only [go_sem, Nat.reduceLT, Nat.reduceAdd, Nat.reduceSub, Nat.reduceMul, Nat.reduceEqDiff, Nat.reduceBEq, Nat.reduceLeDiff, Int.reduceToNat, Int.reduceLT, Int.reduceLE, Int.reduceEq, reduceCtorEq, ↓reduceIte, E101_1, X101_1, k101_1b]
  cases b10 : (ltI s9 p1 : Bool)
  · replace h := br_f b10 h
    cases h
    simp -implicitDefEqProofs only [go_sem, Nat.reduceLT, Nat.reduceAdd, Nat.reduceSub, Nat.reduceMul, Nat.reduceEqDiff, Nat.reduceBEq, Nat.reduceLeDiff, Int.reduceToNat, Int.reduceLT, Int.reduceLE, Int.reduceEq, reduceCtorEq, ↓reduceIte, E101_1, X101_1, k101_1b, b10]
  · replace h := br_t b10 h
    obtain ⟨x11, q12, h⟩ := bnd_some h
    obtain ⟨g13, g14, g15⟩ := idx_row encInt q12
    try simp -implicitDefEqProofs only [go_sem, Nat.reduceLT, Nat.reduceAdd, Nat.reduceSub, Nat.reduceMul, Nat.reduceEqDiff, Nat.reduceBEq, Nat.reduceLeDiff, Int.reduceToNat, Int.reduceLT, Int.reduceLE, Int.reduceEq, reduceCtorEq, ↓reduceIte] at g14
    try simp -implicitDefEqProofs only [go_sem, Nat.reduceLT, Nat.reduceAdd, Nat.reduceSub, Nat.reduceMul, Nat.reduceEqDiff, Nat.reduceBEq, Nat.reduceLeDiff, Int.reduceToNat, Int.reduceLT, Int.reduceLE, Int.reduceEq, reduceCtorEq, ↓reduceIte] at g15
    try simp -implicitDefEqProofs only [go_sem, Nat.reduceLT, Nat.reduceAdd, Nat.reduceSub, Nat.reduceMul, Nat.reduceEqDiff, Nat.reduceBEq, Nat.reduceLeDiff, Int.reduceToNat, Int.reduceLT, Int.reduceLE, Int.reduceEq, reduceCtorEq, ↓reduceIte, E101_1, X101_1, k101_1b, b10, g13, g14, g15]
    cases b16 : (eqI a1 x11 : Bool)
    · replace h := br_f b16 h
      cases h
      simp -implicitDefEqProofs only [go_sem, Nat.reduceLT, Nat.reduceAdd, Nat.reduceSub, Nat.reduceMul, Nat.reduceEqDiff, Nat.reduceBEq, Nat.reduceLeDiff, Int.reduceToNat, Int.reduceLT, Int.reduceLE, Int.reduceEq, reduceCtorEq, ↓reduceIte, E101_1, X101_1, k101_1b, b10, g13, g14, g15, b16]
    · replace h := br_t b16 h
      cases h
      simp -implicitDefEqProofs only [go_sem, Nat.reduceLT, Nat.reduceAdd, Nat.reduceSub, Nat.reduceMul, Nat.reduceEqDiff, Nat.reduceBEq, Nat.reduceLeDiff, Int.reduceToNat, Int.reduceLT, Int.reduceLE, Int.reduceEq, reduceCtorEq, ↓reduceIte, E101_1, X101_1, k101_1b, b10, g13, g14, g15, b16]
theorem e101_1 (a0 : (List Int)) (a1 : Int) (p1 : Int) (s : Int) (o : (Unit ⊕ Int)) (h : loopP (m101_1b a0 a1 p1) s = some o) : evCL T 0 (.loop k101_1b) (E101_1 a0 a1 p1 s).1 (E101_1 a0 a1 p1 s).2 = some (X101_1 a0 a1 p1 o) :=
  loop_walk (E := E101_1 a0 a1 p1) (X := X101_1 a0 a1 p1) (by intro b; rcases b with b | b <;> (simp only [X101_1]; nofun)) (b101_1 a0 a1 p1) s o h
theorem e101 (a0 : (List Int)) (a1 : Int) (r : Int) (h : m101 a0 a1 = some r) : evFL T 101 [.ts .imm 1 (a0.map encInt), .int .i64 a1] [] = some (.int .i64 r, []) := by
  unfold m101 at h
  rw [evFL_at fn101 (Nat.le_of_ble_eq_true rfl) rfl (.inr rfl) ⟨rfl, rfl⟩]
  try simp -implicitDefEqProofs only [go_sem, Nat.reduceLT, Nat.reduceAdd, Nat.reduceSub, Nat.reduceMul, Nat.reduceEqDiff, Nat.reduceBEq, Nat.reduceLeDiff, Int.reduceToNat, Int.reduceLT, Int.reduceLE, Int.reduceEq, reduceCtorEq, ↓reduceIte, i101, c101]
  obtain ⟨o, q17, h⟩ := bnd_some h
  rcases o with ⟨⟩ | v19
  · replace h := selS_l h
    have w18 := e101_1 a0 a1 (↑a0.length : Int) 0 (.inl ()) q17
    simp only [E101_1, X101_1] at w18
    try simp -implicitDefEqProofs only [go_sem, Nat.reduceLT, Nat.reduceAdd, Nat.reduceSub, Nat.reduceMul, Nat.reduceEqDiff, Nat.reduceBEq, Nat.reduceLeDiff, Int.reduceToNat, Int.reduceLT, Int.reduceLE, Int.reduceEq, reduceCtorEq, ↓reduceIte] at w18
    cases h
    simp -implicitDefEqProofs only [go_sem, Nat.reduceLT, Nat.reduceAdd, Nat.reduceSub, Nat.reduceMul, Nat.reduceEqDiff, Nat.reduceBEq, Nat.reduceLeDiff, Int.reduceToNat, Int.reduceLT, Int.reduceLE, Int.reduceEq, reduceCtorEq, ↓reduceIte, i101, c101, w18]
  · replace h := selS_r h
    have w18 := e101_1 a0 a1 (↑a0.length : Int) 0 (.inr v19) q17
    simp only [E101_1, X101_1] at w18
    try simp -implicitDefEqProofs only [go_sem, Nat.reduceLT, Nat.reduceAdd, Nat.reduceSub, Nat.reduceMul, Nat.reduceEqDiff, Nat.reduceBEq, Nat.reduceLeDiff, Int.reduceToNat, Int.reduceLT, Int.reduceLE, Int.reduceEq, reduceCtorEq, ↓reduceIte] at w18
    cases h
    simp -implicitDefEqProofs only [go_sem, Nat.reduceLT, Nat.reduceAdd, Nat.reduceSub, Nat.reduceMul, Nat.reduceEqDiff, Nat.reduceBEq, Nat.reduceLeDiff, Int.reduceToNat, Int.reduceLT, Int.reduceLE, Int.reduceEq, reduceCtorEq, ↓reduceIte, i101, c101, w18]
-- f89 slices.Contains[[]int,int]
theorem call89 (args : List AV) (S : St) : evCall T (evFL T) 89 args S = lendC (evFL T 89) S (lendAll S [[1], [0]] args) := evCall0 fn89 rfl rfl rfl args S
theorem callz89 (args : List AV) (S : St) : evCallFz T (evFL T) 89 args S = lendZ (evFL T 89) S [[0]] (lendAll S [[1], [0]] args) := evCallFz0 fn89 rfl rfl rfl args S
theorem calls89 (args : List AV) (S : St) : evCall (T.at true) (evFL T) 89 args S = lendC (evFL T 89) S (lendAll S [[1], [0]] args) := evCall0 fns89 rfl rfl rfl args S
theorem callsz89 (args : List AV) (S : St) : evCallFz (T.at true) (evFL T) 89 args S = lendZ (evFL T 89) S [[0]] (lendAll S [[1], [0]] args) := evCallFz0 fns89 rfl rfl rfl args S
attribute [go_sem] call89 callz89 calls89 callsz89
theorem e89 (a0 : (List Int)) (a1 : Int) (r : Bool) (h : m89 a0 a1 = some r) : evFL T 89 [.ts .imm 1 (a0.map encInt), .int .i64 a1] [] = some (.bool r, []) := by
  unfold m89 at h
  rw [evFL_at fn89 (Nat.le_of_ble_eq_true rfl) rfl (.inr rfl) ⟨rfl, rfl⟩]
  obtain ⟨r3, q1, h⟩ := bnd_some h
  have w2 := e101 a0 a1 r3 q1
  try simp -implicitDefEqProofs only [go_sem, Nat.reduceLT, Nat.reduceAdd, Nat.reduceSub, Nat.reduceMul, Nat.reduceEqDiff, Nat.reduceBEq, Nat.reduceLeDiff, Int.reduceToNat, Int.reduceLT, Int.reduceLE, Int.reduceEq, reduceCtorEq, ↓reduceIte] at w2
  cases h
  simp -implicitDefEqProofs only [go_sem, Nat.reduceLT, Nat.reduceAdd, Nat.reduceSub, Nat.reduceMul, Nat.reduceEqDiff, Nat.reduceBEq, Nat.reduceLeDiff, Int.reduceToNat, Int.reduceLT, Int.reduceLE, Int.reduceEq, reduceCtorEq, ↓reduceIte, i89, c89, w2]
end Go.Pi.Ytpfoleebeamgpaa.StableOnes
