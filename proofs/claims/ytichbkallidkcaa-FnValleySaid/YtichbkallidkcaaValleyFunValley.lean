/- What functions of the program answer, and that the law answers true at every input; no condition -/
import Derived.Test.YtichbkallidkcaaValleyTabValley
import Derived.Test.YtichbkallidkcaaValleyModValley
set_option linter.all false
/- Functions of the program: that the code answers as the plain functions do. -/
namespace Go.Pi.Ytichbkallidkcaa.Valley
open Go Go.Proofs Go.Pi
set_option maxRecDepth 100000
set_option linter.all false
def encIntu8 (x : Int) : List AV := [.int .u8 x]
attribute [go_sem] encIntu8
theorem sq_encIntu8 (q : Ql) (x : Int) : setQL q (encIntu8 x) = encIntu8 x := by simp [encIntu8]
theorem sqm_encIntu8 (q : Ql) (xs : List Int) : setQLL q (xs.map encIntu8) = xs.map encIntu8 := by rw [setQLL_map]; exact List.map_congr_left (fun x _ => sq_encIntu8 q x)
theorem ow_encIntu8 (x : Int) : ownOnlyL (encIntu8 x) = true := by simp [encIntu8, ownOnlyL, ownOnly, ownLL_map]
theorem owm_encIntu8 (xs : List Int) : ownOnlyLL (xs.map encIntu8) = true := ownLL_map _ ow_encIntu8 xs
theorem fi_encIntu8 (x : Int) : fine.fineL (encIntu8 x) = true := by simp [encIntu8, fine.fineL, fine, fineLL_map]
theorem fim_encIntu8 (xs : List Int) : fine.fineLL (xs.map encIntu8) = true := fineLL_map _ fi_encIntu8 xs
theorem nu_encIntu8 (x : Int) : nude.nudeL (encIntu8 x) = true := by simp [encIntu8, nude.nudeL, nude, nudeLL_map]
theorem num_encIntu8 (xs : List Int) : nude.nudeLL (xs.map encIntu8) = true := nudeLL_map _ nu_encIntu8 xs
theorem st_encIntu8 (q : Ql) (xs : List Int) : (xs.map encIntu8).map (fun x => x.map (setTop q)) = xs.map encIntu8 := by rw [List.map_map]; rfl
attribute [go_sem] st_encIntu8
attribute [simp] sqm_encIntu8 ow_encIntu8 owm_encIntu8 fi_encIntu8 fim_encIntu8 nu_encIntu8 num_encIntu8
attribute [go_sem] sqm_encIntu8 owm_encIntu8 fim_encIntu8 num_encIntu8
def encLIntu8 (q : Ql) (x : (List Int)) : List AV := [.ts q 1 (x.map encIntu8)]
attribute [go_sem] encLIntu8
theorem sq_encLIntu8 (q q1 : Ql) (x : (List Int)) : setQL q (encLIntu8 q1 x) = encLIntu8 q x := by simp [encLIntu8, sq_encIntu8]
theorem sqm_encLIntu8 (q q1 : Ql) (xs : List (List Int)) : setQLL q (xs.map (encLIntu8 q1)) = xs.map (encLIntu8 q) := by rw [setQLL_map]; exact List.map_congr_left (fun x _ => sq_encLIntu8 q q1 x)
theorem ow_encLIntu8 (x : (List Int)) : ownOnlyL (encLIntu8 .own x) = true := by simp [encLIntu8, ownOnlyL, ownOnly, ownLL_map]
theorem owm_encLIntu8 (xs : List (List Int)) : ownOnlyLL (xs.map (encLIntu8 .own)) = true := ownLL_map _ ow_encLIntu8 xs
theorem fi_encLIntu8 (x : (List Int)) : fine.fineL (encLIntu8 .own x) = true := by simp [encLIntu8, fine.fineL, fine, fineLL_map]
theorem fim_encLIntu8 (xs : List (List Int)) : fine.fineLL (xs.map (encLIntu8 .own)) = true := fineLL_map _ fi_encLIntu8 xs
theorem nu_encLIntu8 (x : (List Int)) : nude.nudeL (encLIntu8 .own x) = true := by simp [encLIntu8, nude.nudeL, nude, nudeLL_map]
theorem num_encLIntu8 (xs : List (List Int)) : nude.nudeLL (xs.map (encLIntu8 .own)) = true := nudeLL_map _ nu_encLIntu8 xs
theorem st_encLIntu8 (q q1 : Ql) (xs : List (List Int)) : (xs.map (encLIntu8 q1)).map (fun x => x.map (setTop q)) = xs.map (encLIntu8 q) := by rw [List.map_map]; rfl
attribute [go_sem] st_encLIntu8
attribute [simp] sqm_encLIntu8 ow_encLIntu8 owm_encLIntu8 fi_encLIntu8 fim_encLIntu8 nu_encLIntu8 num_encLIntu8
attribute [go_sem] sqm_encLIntu8 owm_encLIntu8 fim_encLIntu8 num_encLIntu8
def encBool (x : Bool) : List AV := [.bool x]
attribute [go_sem] encBool
theorem sq_encBool (q : Ql) (x : Bool) : setQL q (encBool x) = encBool x := by simp [encBool]
theorem sqm_encBool (q : Ql) (xs : List Bool) : setQLL q (xs.map encBool) = xs.map encBool := by rw [setQLL_map]; exact List.map_congr_left (fun x _ => sq_encBool q x)
theorem ow_encBool (x : Bool) : ownOnlyL (encBool x) = true := by simp [encBool, ownOnlyL, ownOnly, ownLL_map]
theorem owm_encBool (xs : List Bool) : ownOnlyLL (xs.map encBool) = true := ownLL_map _ ow_encBool xs
theorem fi_encBool (x : Bool) : fine.fineL (encBool x) = true := by simp [encBool, fine.fineL, fine, fineLL_map]
theorem fim_encBool (xs : List Bool) : fine.fineLL (xs.map encBool) = true := fineLL_map _ fi_encBool xs
theorem nu_encBool (x : Bool) : nude.nudeL (encBool x) = true := by simp [encBool, nude.nudeL, nude, nudeLL_map]
theorem num_encBool (xs : List Bool) : nude.nudeLL (xs.map encBool) = true := nudeLL_map _ nu_encBool xs
theorem st_encBool (q : Ql) (xs : List Bool) : (xs.map encBool).map (fun x => x.map (setTop q)) = xs.map encBool := by rw [List.map_map]; rfl
attribute [go_sem] st_encBool
attribute [simp] sqm_encBool ow_encBool owm_encBool fi_encBool fim_encBool nu_encBool num_encBool
attribute [go_sem] sqm_encBool owm_encBool fim_encBool num_encBool
def encInt (x : Int) : List AV := [.int .i64 x]
attribute [go_sem] encInt
theorem sq_encInt (q : Ql) (x : Int) : setQL q (encInt x) = encInt x := by simp [encInt]
theorem sqm_encInt (q : Ql) (xs : List Int) : setQLL q (xs.map encInt) = xs.map encInt := by rw [setQLL_map]; exact List.map_congr_left (fun x _ => sq_encInt q x)
theorem ow_encInt (x : Int) : ownOnlyL (encInt x) = true := by simp [encInt, ownOnlyL, ownOnly, ownLL_map]
theorem owm_encInt (xs : List Int) : ownOnlyLL (xs.map encInt) = true := ownLL_map _ ow_encInt xs
theorem fi_encInt (x : Int) : fine.fineL (encInt x) = true := by simp [encInt, fine.fineL, fine, fineLL_map]
theorem fim_encInt (xs : List Int) : fine.fineLL (xs.map encInt) = true := fineLL_map _ fi_encInt xs
theorem nu_encInt (x : Int) : nude.nudeL (encInt x) = true := by simp [encInt, nude.nudeL, nude, nudeLL_map]
theorem num_encInt (xs : List Int) : nude.nudeLL (xs.map encInt) = true := nudeLL_map _ nu_encInt xs
theorem st_encInt (q : Ql) (xs : List Int) : (xs.map encInt).map (fun x => x.map (setTop q)) = xs.map encInt := by rw [List.map_map]; rfl
attribute [go_sem] st_encInt
attribute [simp] sqm_encInt ow_encInt owm_encInt fi_encInt fim_encInt nu_encInt num_encInt
attribute [go_sem] sqm_encInt owm_encInt fim_encInt num_encInt
def encRel (x : Rel) : List AV := [.int .i64 x.a, .int .i64 x.b, .int .i64 x.kind]
attribute [go_sem] encRel
theorem sq_encRel (q : Ql) (x : Rel) : setQL q (encRel x) = encRel x := by simp [encRel]
theorem sqm_encRel (q : Ql) (xs : List Rel) : setQLL q (xs.map encRel) = xs.map encRel := by rw [setQLL_map]; exact List.map_congr_left (fun x _ => sq_encRel q x)
theorem ow_encRel (x : Rel) : ownOnlyL (encRel x) = true := by simp [encRel, ownOnlyL, ownOnly, ownLL_map]
theorem owm_encRel (xs : List Rel) : ownOnlyLL (xs.map encRel) = true := ownLL_map _ ow_encRel xs
theorem fi_encRel (x : Rel) : fine.fineL (encRel x) = true := by simp [encRel, fine.fineL, fine, fineLL_map]
theorem fim_encRel (xs : List Rel) : fine.fineLL (xs.map encRel) = true := fineLL_map _ fi_encRel xs
theorem nu_encRel (x : Rel) : nude.nudeL (encRel x) = true := by simp [encRel, nude.nudeL, nude, nudeLL_map]
theorem num_encRel (xs : List Rel) : nude.nudeLL (xs.map encRel) = true := nudeLL_map _ nu_encRel xs
theorem st_encRel (q : Ql) (xs : List Rel) : (xs.map encRel).map (fun x => x.map (setTop q)) = xs.map encRel := by rw [List.map_map]; rfl
attribute [go_sem] st_encRel
attribute [simp] sqm_encRel ow_encRel owm_encRel fi_encRel fim_encRel nu_encRel num_encRel
attribute [go_sem] sqm_encRel owm_encRel fim_encRel num_encRel
def encLRel (q : Ql) (x : (List Rel)) : List AV := [.ts q 3 (x.map encRel)]
attribute [go_sem] encLRel
theorem sq_encLRel (q q1 : Ql) (x : (List Rel)) : setQL q (encLRel q1 x) = encLRel q x := by simp [encLRel, sq_encRel]
theorem sqm_encLRel (q q1 : Ql) (xs : List (List Rel)) : setQLL q (xs.map (encLRel q1)) = xs.map (encLRel q) := by rw [setQLL_map]; exact List.map_congr_left (fun x _ => sq_encLRel q q1 x)
theorem ow_encLRel (x : (List Rel)) : ownOnlyL (encLRel .own x) = true := by simp [encLRel, ownOnlyL, ownOnly, ownLL_map]
theorem owm_encLRel (xs : List (List Rel)) : ownOnlyLL (xs.map (encLRel .own)) = true := ownLL_map _ ow_encLRel xs
theorem fi_encLRel (x : (List Rel)) : fine.fineL (encLRel .own x) = true := by simp [encLRel, fine.fineL, fine, fineLL_map]
theorem fim_encLRel (xs : List (List Rel)) : fine.fineLL (xs.map (encLRel .own)) = true := fineLL_map _ fi_encLRel xs
theorem nu_encLRel (x : (List Rel)) : nude.nudeL (encLRel .own x) = true := by simp [encLRel, nude.nudeL, nude, nudeLL_map]
theorem num_encLRel (xs : List (List Rel)) : nude.nudeLL (xs.map (encLRel .own)) = true := nudeLL_map _ nu_encLRel xs
theorem st_encLRel (q q1 : Ql) (xs : List (List Rel)) : (xs.map (encLRel q1)).map (fun x => x.map (setTop q)) = xs.map (encLRel q) := by rw [List.map_map]; rfl
attribute [go_sem] st_encLRel
attribute [simp] sqm_encLRel ow_encLRel owm_encLRel fi_encLRel fim_encLRel nu_encLRel num_encLRel
attribute [go_sem] sqm_encLRel owm_encLRel fim_encLRel num_encLRel
def encLInt (q : Ql) (x : (List Int)) : List AV := [.ts q 1 (x.map encInt)]
attribute [go_sem] encLInt
theorem sq_encLInt (q q1 : Ql) (x : (List Int)) : setQL q (encLInt q1 x) = encLInt q x := by simp [encLInt, sq_encInt]
theorem sqm_encLInt (q q1 : Ql) (xs : List (List Int)) : setQLL q (xs.map (encLInt q1)) = xs.map (encLInt q) := by rw [setQLL_map]; exact List.map_congr_left (fun x _ => sq_encLInt q q1 x)
theorem ow_encLInt (x : (List Int)) : ownOnlyL (encLInt .own x) = true := by simp [encLInt, ownOnlyL, ownOnly, ownLL_map]
theorem owm_encLInt (xs : List (List Int)) : ownOnlyLL (xs.map (encLInt .own)) = true := ownLL_map _ ow_encLInt xs
theorem fi_encLInt (x : (List Int)) : fine.fineL (encLInt .own x) = true := by simp [encLInt, fine.fineL, fine, fineLL_map]
theorem fim_encLInt (xs : List (List Int)) : fine.fineLL (xs.map (encLInt .own)) = true := fineLL_map _ fi_encLInt xs
theorem nu_encLInt (x : (List Int)) : nude.nudeL (encLInt .own x) = true := by simp [encLInt, nude.nudeL, nude, nudeLL_map]
theorem num_encLInt (xs : List (List Int)) : nude.nudeLL (xs.map (encLInt .own)) = true := nudeLL_map _ nu_encLInt xs
theorem st_encLInt (q q1 : Ql) (xs : List (List Int)) : (xs.map (encLInt q1)).map (fun x => x.map (setTop q)) = xs.map (encLInt q) := by rw [List.map_map]; rfl
attribute [go_sem] st_encLInt
attribute [simp] sqm_encLInt ow_encLInt owm_encLInt fi_encLInt fim_encLInt nu_encLInt num_encLInt
attribute [go_sem] sqm_encLInt owm_encLInt fim_encLInt num_encLInt
def encIntu64 (x : Int) : List AV := [.int .u64 x]
attribute [go_sem] encIntu64
theorem sq_encIntu64 (q : Ql) (x : Int) : setQL q (encIntu64 x) = encIntu64 x := by simp [encIntu64]
theorem sqm_encIntu64 (q : Ql) (xs : List Int) : setQLL q (xs.map encIntu64) = xs.map encIntu64 := by rw [setQLL_map]; exact List.map_congr_left (fun x _ => sq_encIntu64 q x)
theorem ow_encIntu64 (x : Int) : ownOnlyL (encIntu64 x) = true := by simp [encIntu64, ownOnlyL, ownOnly, ownLL_map]
theorem owm_encIntu64 (xs : List Int) : ownOnlyLL (xs.map encIntu64) = true := ownLL_map _ ow_encIntu64 xs
theorem fi_encIntu64 (x : Int) : fine.fineL (encIntu64 x) = true := by simp [encIntu64, fine.fineL, fine, fineLL_map]
theorem fim_encIntu64 (xs : List Int) : fine.fineLL (xs.map encIntu64) = true := fineLL_map _ fi_encIntu64 xs
theorem nu_encIntu64 (x : Int) : nude.nudeL (encIntu64 x) = true := by simp [encIntu64, nude.nudeL, nude, nudeLL_map]
theorem num_encIntu64 (xs : List Int) : nude.nudeLL (xs.map encIntu64) = true := nudeLL_map _ nu_encIntu64 xs
theorem st_encIntu64 (q : Ql) (xs : List Int) : (xs.map encIntu64).map (fun x => x.map (setTop q)) = xs.map encIntu64 := by rw [List.map_map]; rfl
attribute [go_sem] st_encIntu64
attribute [simp] sqm_encIntu64 ow_encIntu64 owm_encIntu64 fi_encIntu64 fim_encIntu64 nu_encIntu64 num_encIntu64
attribute [go_sem] sqm_encIntu64 owm_encIntu64 fim_encIntu64 num_encIntu64
def encl1Cur (q : Ql) (x : l1Cur) : List AV := [.ts q 1 (x.code.map encIntu8), .int .i64 x.at_, .int .u64 x.seed]
attribute [go_sem] encl1Cur
theorem sq_encl1Cur (q q1 : Ql) (x : l1Cur) : setQL q (encl1Cur q1 x) = encl1Cur q x := by simp [encl1Cur, sq_encIntu8]
theorem sqm_encl1Cur (q q1 : Ql) (xs : List l1Cur) : setQLL q (xs.map (encl1Cur q1)) = xs.map (encl1Cur q) := by rw [setQLL_map]; exact List.map_congr_left (fun x _ => sq_encl1Cur q q1 x)
theorem ow_encl1Cur (x : l1Cur) : ownOnlyL (encl1Cur .own x) = true := by simp [encl1Cur, ownOnlyL, ownOnly, ownLL_map]
theorem owm_encl1Cur (xs : List l1Cur) : ownOnlyLL (xs.map (encl1Cur .own)) = true := ownLL_map _ ow_encl1Cur xs
theorem fi_encl1Cur (x : l1Cur) : fine.fineL (encl1Cur .own x) = true := by simp [encl1Cur, fine.fineL, fine, fineLL_map]
theorem fim_encl1Cur (xs : List l1Cur) : fine.fineLL (xs.map (encl1Cur .own)) = true := fineLL_map _ fi_encl1Cur xs
theorem nu_encl1Cur (x : l1Cur) : nude.nudeL (encl1Cur .own x) = true := by simp [encl1Cur, nude.nudeL, nude, nudeLL_map]
theorem num_encl1Cur (xs : List l1Cur) : nude.nudeLL (xs.map (encl1Cur .own)) = true := nudeLL_map _ nu_encl1Cur xs
theorem st_encl1Cur (q q1 : Ql) (xs : List l1Cur) : (xs.map (encl1Cur q1)).map (fun x => x.map (setTop q)) = xs.map (encl1Cur q) := by rw [List.map_map]; rfl
attribute [go_sem] st_encl1Cur
attribute [simp] sqm_encl1Cur ow_encl1Cur owm_encl1Cur fi_encl1Cur fim_encl1Cur nu_encl1Cur num_encl1Cur
attribute [go_sem] sqm_encl1Cur owm_encl1Cur fim_encl1Cur num_encl1Cur
-- f73 (*spec.l1Cur).next
def X73_1 (p1 : Bool) (a0 : l1Cur) (o : Int) : Ex × Fr × St :=
  (.normal, frOf 62 (upd (upd anyF 0 (.ptr 0 0 0)) 3 (.int .i64 o)), [some ⟨.box, 3, [[.ts .imm 1 (a0.code.map encIntu8), .int .i64 a0.at_, .int .u64 a0.seed]]⟩])
theorem e73_1 (p1 : Bool) (a0 : l1Cur) (o : Int) (h : m73_1 p1 a0 = some o) : evCL T 1 k73_1 (frOf 62 (upd (upd (upd anyF 0 (.ptr 0 0 0)) 3 (.int .i64 0)) 13 (.bool p1))) [some ⟨.box, 3, [[.ts .imm 1 (a0.code.map encIntu8), .int .i64 a0.at_, .int .u64 a0.seed]]⟩] = some (X73_1 p1 a0 o) := by
  unfold m73_1 at h
  try simp -implicitDefEqProofs only [go_sem, Nat.reduceLT, Nat.reduceAdd, Nat.reduceSub, Nat.reduceMul, Nat.reduceEqDiff, Nat.reduceBEq, Nat.reduceLeDiff, Int.reduceToNat, Int.reduceLT, Int.reduceLE, Int.reduceEq, reduceCtorEq, ↓reduceIte, X73_1, k73_1]
  cases b2 : (p1 : Bool)
  · replace h := br_f b2 h
    cases h
    simp -implicitDefEqProofs only [go_sem, Nat.reduceLT, Nat.reduceAdd, Nat.reduceSub, Nat.reduceMul, Nat.reduceEqDiff, Nat.reduceBEq, Nat.reduceLeDiff, Int.reduceToNat, Int.reduceLT, Int.reduceLE, Int.reduceEq, reduceCtorEq, ↓reduceIte, X73_1, k73_1, b2]
  · replace h := br_t b2 h
    obtain ⟨x3, q4, h⟩ := bnd_some h
    obtain ⟨g5, g6, g7⟩ := idx_row encIntu8 q4
    try simp -implicitDefEqProofs only [go_sem, Nat.reduceLT, Nat.reduceAdd, Nat.reduceSub, Nat.reduceMul, Nat.reduceEqDiff, Nat.reduceBEq, Nat.reduceLeDiff, Int.reduceToNat, Int.reduceLT, Int.reduceLE, Int.reduceEq, reduceCtorEq, ↓reduceIte] at g6
    try simp -implicitDefEqProofs only [go_sem, Nat.reduceLT, Nat.reduceAdd, Nat.reduceSub, Nat.reduceMul, Nat.reduceEqDiff, Nat.reduceBEq, Nat.reduceLeDiff, Int.reduceToNat, Int.reduceLT, Int.reduceLE, Int.reduceEq, reduceCtorEq, ↓reduceIte] at g7
    cases h
    simp -implicitDefEqProofs only [go_sem, Nat.reduceLT, Nat.reduceAdd, Nat.reduceSub, Nat.reduceMul, Nat.reduceEqDiff, Nat.reduceBEq, Nat.reduceLeDiff, Int.reduceToNat, Int.reduceLT, Int.reduceLE, Int.reduceEq, reduceCtorEq, ↓reduceIte, X73_1, k73_1, b2, g5, g6, g7]
theorem call73 (args : List AV) (S : St) : evCall T (evFL T) 73 args S = c3A true (evFL T 73) (rawAll S [[0]] args) := evCall3_a fn73 rfl args S
attribute [go_sem] call73
theorem e73 (a0 : l1Cur) (r : (Int × Int × Int)) (h : m73 a0 = some r) : evFL T 73 [.ptr 0 0 0] [some ⟨.box, 3, [[.ts .imm 1 (a0.code.map encIntu8), .int .i64 a0.at_, .int .u64 a0.seed]]⟩] = some (.int .i64 r.1, [some ⟨.box, 3, [[.ts .imm 1 (a0.code.map encIntu8), .int .i64 r.2.1, .int .u64 r.2.2]]⟩]) := by
  unfold m73 at h
  rw [evFL_at fn73 (Nat.le_of_ble_eq_true rfl) rfl (.inl rfl)]
  obtain ⟨v10, q8, h⟩ := bnd_some h
  have w9 := e73_1 (ltI a0.at_ (↑a0.code.length : Int)) a0 v10 q8
  simp only [X73_1] at w9
  try simp -implicitDefEqProofs only [go_sem, Nat.reduceLT, Nat.reduceAdd, Nat.reduceSub, Nat.reduceMul, Nat.reduceEqDiff, Nat.reduceBEq, Nat.reduceLeDiff, Int.reduceToNat, Int.reduceLT, Int.reduceLE, Int.reduceEq, reduceCtorEq, ↓reduceIte] at w9
  try simp -implicitDefEqProofs only [go_sem, Nat.reduceLT, Nat.reduceAdd, Nat.reduceSub, Nat.reduceMul, Nat.reduceEqDiff, Nat.reduceBEq, Nat.reduceLeDiff, Int.reduceToNat, Int.reduceLT, Int.reduceLE, Int.reduceEq, reduceCtorEq, ↓reduceIte, i73, c73, w9]
  cases b11 : (leI (wadd .i64 a0.at_ 1) (↑a0.code.length : Int) : Bool)
  · replace h := br_f b11 h
    cases h
    simp -implicitDefEqProofs only [go_sem, Nat.reduceLT, Nat.reduceAdd, Nat.reduceSub, Nat.reduceMul, Nat.reduceEqDiff, Nat.reduceBEq, Nat.reduceLeDiff, Int.reduceToNat, Int.reduceLT, Int.reduceLE, Int.reduceEq, reduceCtorEq, ↓reduceIte, i73, c73, w9, b11]
  · replace h := br_t b11 h
    cases h
    simp -implicitDefEqProofs only [go_sem, Nat.reduceLT, Nat.reduceAdd, Nat.reduceSub, Nat.reduceMul, Nat.reduceEqDiff, Nat.reduceBEq, Nat.reduceLeDiff, Int.reduceToNat, Int.reduceLT, Int.reduceLE, Int.reduceEq, reduceCtorEq, ↓reduceIte, i73, c73, w9, b11]
-- f58 (*spec.l1Cur).pick
def X58_1 (a1 : Int) (r4 : Int) (p7 : Bool) (a0 : l1Cur) (r5 : Int) (r6 : Int) (o : (Int × Int × Int)) : Ex × Fr × St :=
  (.normal, frOf 20 (upd (upd anyF 1 (.int .i64 a1)) 5 (.int .i64 o.1)), [some ⟨.box, 3, [[.ts .imm 1 (a0.code.map encIntu8), .int .i64 o.2.1, .int .u64 o.2.2]]⟩])
theorem e58_1 (a1 : Int) (r4 : Int) (p7 : Bool) (a0 : l1Cur) (r5 : Int) (r6 : Int) (o : (Int × Int × Int)) (h : m58_1 r4 p7 a0 r5 r6 = some o) : evCL T 1 k58_1 (frOf 20 (upd (upd (upd (upd anyF 0 (.ptr 0 0 0)) 1 (.int .i64 a1)) 5 (.int .i64 r4)) 11 (.bool p7))) [some ⟨.box, 3, [[.ts .imm 1 (a0.code.map encIntu8), .int .i64 r5, .int .u64 r6]]⟩] = some (X58_1 a1 r4 p7 a0 r5 r6 o) := by
  unfold m58_1 at h
  try simp -implicitDefEqProofs only [go_sem, Nat.reduceLT, Nat.reduceAdd, Nat.reduceSub, Nat.reduceMul, Nat.reduceEqDiff, Nat.reduceBEq, Nat.reduceLeDiff, Int.reduceToNat, Int.reduceLT, Int.reduceLE, Int.reduceEq, reduceCtorEq, ↓reduceIte, X58_1, k58_1]
  cases b8 : (p7 : Bool)
  · replace h := br_f b8 h
    cases h
    simp -implicitDefEqProofs only [go_sem, Nat.reduceLT, Nat.reduceAdd, Nat.reduceSub, Nat.reduceMul, Nat.reduceEqDiff, Nat.reduceBEq, Nat.reduceLeDiff, Int.reduceToNat, Int.reduceLT, Int.reduceLE, Int.reduceEq, reduceCtorEq, ↓reduceIte, X58_1, k58_1, b8]
  · replace h := br_t b8 h
    obtain ⟨⟨r11, r12, r13⟩, q9, h⟩ := bnd_some h
    replace h := sel3_some h
    have w10 := e73 (⟨a0.code, r5, r6⟩ : l1Cur) (r11, r12, r13) q9
    try simp -implicitDefEqProofs only [go_sem, Nat.reduceLT, Nat.reduceAdd, Nat.reduceSub, Nat.reduceMul, Nat.reduceEqDiff, Nat.reduceBEq, Nat.reduceLeDiff, Int.reduceToNat, Int.reduceLT, Int.reduceLE, Int.reduceEq, reduceCtorEq, ↓reduceIte] at w10
    cases h
    simp -implicitDefEqProofs only [go_sem, Nat.reduceLT, Nat.reduceAdd, Nat.reduceSub, Nat.reduceMul, Nat.reduceEqDiff, Nat.reduceBEq, Nat.reduceLeDiff, Int.reduceToNat, Int.reduceLT, Int.reduceLE, Int.reduceEq, reduceCtorEq, ↓reduceIte, X58_1, k58_1, b8, w10]
theorem call58 (args : List AV) (S : St) : evCall T (evFL T) 58 args S = c3A true (evFL T 58) (rawAll S [[0], [0]] args) := evCall3_a fn58 rfl args S
attribute [go_sem] call58
theorem e58 (a0 : l1Cur) (a1 : Int) (r : (Int × Int × Int)) (h : m58 a0 a1 = some r) : evFL T 58 [.ptr 0 0 0, .int .i64 a1] [some ⟨.box, 3, [[.ts .imm 1 (a0.code.map encIntu8), .int .i64 a0.at_, .int .u64 a0.seed]]⟩] = some (.int .i64 r.1, [some ⟨.box, 3, [[.ts .imm 1 (a0.code.map encIntu8), .int .i64 r.2.1, .int .u64 r.2.2]]⟩]) := by
  unfold m58 at h
  rw [evFL_at fn58 (Nat.le_of_ble_eq_true rfl) rfl (.inl rfl)]
  try simp -implicitDefEqProofs only [go_sem, Nat.reduceLT, Nat.reduceAdd, Nat.reduceSub, Nat.reduceMul, Nat.reduceEqDiff, Nat.reduceBEq, Nat.reduceLeDiff, Int.reduceToNat, Int.reduceLT, Int.reduceLE, Int.reduceEq, reduceCtorEq, ↓reduceIte, i58, c58]
  cases b1 : (leI a1 1 : Bool)
  · replace h := br_f b1 h
    obtain ⟨⟨r4, r5, r6⟩, q2, h⟩ := bnd_some h
    replace h := sel3_some h
    have w3 := e73 a0 (r4, r5, r6) q2
    try simp -implicitDefEqProofs only [go_sem, Nat.reduceLT, Nat.reduceAdd, Nat.reduceSub, Nat.reduceMul, Nat.reduceEqDiff, Nat.reduceBEq, Nat.reduceLeDiff, Int.reduceToNat, Int.reduceLT, Int.reduceLE, Int.reduceEq, reduceCtorEq, ↓reduceIte] at w3
    obtain ⟨⟨v16, v17, v18⟩, q14, h⟩ := bnd_some h
    replace h := sel3_some h
    have w15 := e58_1 a1 r4 (ltI 200 a1) a0 r5 r6 (v16, v17, v18) q14
    simp only [X58_1] at w15
    try simp -implicitDefEqProofs only [go_sem, Nat.reduceLT, Nat.reduceAdd, Nat.reduceSub, Nat.reduceMul, Nat.reduceEqDiff, Nat.reduceBEq, Nat.reduceLeDiff, Int.reduceToNat, Int.reduceLT, Int.reduceLE, Int.reduceEq, reduceCtorEq, ↓reduceIte] at w15
    obtain ⟨g19, h⟩ := ck_some h
    try simp -implicitDefEqProofs only [go_sem, Nat.reduceLT, Nat.reduceAdd, Nat.reduceSub, Nat.reduceMul, Nat.reduceEqDiff, Nat.reduceBEq, Nat.reduceLeDiff, Int.reduceToNat, Int.reduceLT, Int.reduceLE, Int.reduceEq, reduceCtorEq, ↓reduceIte] at g19
    cases h
    simp -implicitDefEqProofs only [go_sem, Nat.reduceLT, Nat.reduceAdd, Nat.reduceSub, Nat.reduceMul, Nat.reduceEqDiff, Nat.reduceBEq, Nat.reduceLeDiff, Int.reduceToNat, Int.reduceLT, Int.reduceLE, Int.reduceEq, reduceCtorEq, ↓reduceIte, i58, c58, b1, w3, w15, g19]
  · replace h := br_t b1 h
    cases h
    simp -implicitDefEqProofs only [go_sem, Nat.reduceLT, Nat.reduceAdd, Nat.reduceSub, Nat.reduceMul, Nat.reduceEqDiff, Nat.reduceBEq, Nat.reduceLeDiff, Int.reduceToNat, Int.reduceLT, Int.reduceLE, Int.reduceEq, reduceCtorEq, ↓reduceIte, i58, c58, b1]
-- f59 (*spec.l1Cur).one
theorem call59 (args : List AV) (S : St) : evCall T (evFL T) 59 args S = c3A true (evFL T 59) (rawAll S [[0], [0]] args) := evCall3_a fn59 rfl args S
attribute [go_sem] call59
theorem e59 (a0 : l1Cur) (a1 : Int) (r : (Bool × Int × Int)) (h : m59 a0 a1 = some r) : evFL T 59 [.ptr 0 0 0, .int .i64 a1] [some ⟨.box, 3, [[.ts .imm 1 (a0.code.map encIntu8), .int .i64 a0.at_, .int .u64 a0.seed]]⟩] = some (.bool r.1, [some ⟨.box, 3, [[.ts .imm 1 (a0.code.map encIntu8), .int .i64 r.2.1, .int .u64 r.2.2]]⟩]) := by
  unfold m59 at h
  rw [evFL_at fn59 (Nat.le_of_ble_eq_true rfl) rfl (.inl rfl)]
  obtain ⟨⟨r3, r4, r5⟩, q1, h⟩ := bnd_some h
  replace h := sel3_some h
  have w2 := e58 a0 a1 (r3, r4, r5) q1
  try simp -implicitDefEqProofs only [go_sem, Nat.reduceLT, Nat.reduceAdd, Nat.reduceSub, Nat.reduceMul, Nat.reduceEqDiff, Nat.reduceBEq, Nat.reduceLeDiff, Int.reduceToNat, Int.reduceLT, Int.reduceLE, Int.reduceEq, reduceCtorEq, ↓reduceIte] at w2
  cases h
  simp -implicitDefEqProofs only [go_sem, Nat.reduceLT, Nat.reduceAdd, Nat.reduceSub, Nat.reduceMul, Nat.reduceEqDiff, Nat.reduceBEq, Nat.reduceLeDiff, Int.reduceToNat, Int.reduceLT, Int.reduceLE, Int.reduceEq, reduceCtorEq, ↓reduceIte, i59, c59, w2]
-- f57 (*spec.l1Cur).rels
def X57_15 (p6 : Int) (s73 : Int) (s107 : Int) (p125 : Bool) (a0 : l1Cur) (r121 : Int) (r122 : Int) (s110 : List Rel) (o : Int) : Ex × Fr × St :=
  (.normal, frOf 54 (upd (upd (upd (upd (upd (upd anyF 0 (.ptr 0 0 0)) 4 (.int .i64 p6)) 5 (.sl 1 0 s110.length)) 6 (.int .i64 s73)) 7 (.int .i64 s107)) 8 (.int .i64 o)), [some ⟨.box, 3, [[.ts .imm 1 (a0.code.map encIntu8), .int .i64 r121, .int .u64 r122]]⟩, some ⟨.arr, 3, s110.map encRel⟩])
theorem e57_15 (p6 : Int) (s73 : Int) (s107 : Int) (p125 : Bool) (a0 : l1Cur) (r121 : Int) (r122 : Int) (s110 : List Rel) (o : Int) (h : m57_15 p125 = some o) : evCL T 1 k57_15 (frOf 54 (upd (upd (upd (upd (upd (upd (upd anyF 0 (.ptr 0 0 0)) 4 (.int .i64 p6)) 5 (.sl 1 0 s110.length)) 6 (.int .i64 s73)) 7 (.int .i64 s107)) 8 (.int .i64 3)) 31 (.bool p125))) [some ⟨.box, 3, [[.ts .imm 1 (a0.code.map encIntu8), .int .i64 r121, .int .u64 r122]]⟩, some ⟨.arr, 3, s110.map encRel⟩] = some (X57_15 p6 s73 s107 p125 a0 r121 r122 s110 o) := by
  unfold m57_15 at h
  try simp -implicitDefEqProofs only [go_sem, Nat.reduceLT, Nat.reduceAdd, Nat.reduceSub, Nat.reduceMul, Nat.reduceEqDiff, Nat.reduceBEq, Nat.reduceLeDiff, Int.reduceToNat, Int.reduceLT, Int.reduceLE, Int.reduceEq, reduceCtorEq, ↓reduceIte, X57_15, k57_15]
  cases b126 : (p125 : Bool)
  · replace h := br_f b126 h
    cases h
    simp -implicitDefEqProofs only [go_sem, Nat.reduceLT, Nat.reduceAdd, Nat.reduceSub, Nat.reduceMul, Nat.reduceEqDiff, Nat.reduceBEq, Nat.reduceLeDiff, Int.reduceToNat, Int.reduceLT, Int.reduceLE, Int.reduceEq, reduceCtorEq, ↓reduceIte, X57_15, k57_15, b126]
  · replace h := br_t b126 h
    cases h
    simp -implicitDefEqProofs only [go_sem, Nat.reduceLT, Nat.reduceAdd, Nat.reduceSub, Nat.reduceMul, Nat.reduceEqDiff, Nat.reduceBEq, Nat.reduceLeDiff, Int.reduceToNat, Int.reduceLT, Int.reduceLE, Int.reduceEq, reduceCtorEq, ↓reduceIte, X57_15, k57_15, b126]
def X57_14 (p6 : Int) (s73 : Int) (s107 : Int) (r120 : Int) (p123 : Bool) (a0 : l1Cur) (r121 : Int) (r122 : Int) (s110 : List Rel) (o : Int) : Ex × Fr × St :=
  (.normal, frOf 54 (upd (upd (upd (upd (upd (upd anyF 0 (.ptr 0 0 0)) 4 (.int .i64 p6)) 5 (.sl 1 0 s110.length)) 6 (.int .i64 s73)) 7 (.int .i64 s107)) 8 (.int .i64 o)), [some ⟨.box, 3, [[.ts .imm 1 (a0.code.map encIntu8), .int .i64 r121, .int .u64 r122]]⟩, some ⟨.arr, 3, s110.map encRel⟩])
theorem e57_14 (p6 : Int) (s73 : Int) (s107 : Int) (r120 : Int) (p123 : Bool) (a0 : l1Cur) (r121 : Int) (r122 : Int) (s110 : List Rel) (o : Int) (h : m57_14 r120 p123 = some o) : evCL T 1 k57_14 (frOf 54 (upd (upd (upd (upd (upd (upd (upd (upd anyF 0 (.ptr 0 0 0)) 4 (.int .i64 p6)) 5 (.sl 1 0 s110.length)) 6 (.int .i64 s73)) 7 (.int .i64 s107)) 8 (.int .i64 3)) 28 (.int .i64 r120)) 29 (.bool p123))) [some ⟨.box, 3, [[.ts .imm 1 (a0.code.map encIntu8), .int .i64 r121, .int .u64 r122]]⟩, some ⟨.arr, 3, s110.map encRel⟩] = some (X57_14 p6 s73 s107 r120 p123 a0 r121 r122 s110 o) := by
  unfold m57_14 at h
  try simp -implicitDefEqProofs only [go_sem, Nat.reduceLT, Nat.reduceAdd, Nat.reduceSub, Nat.reduceMul, Nat.reduceEqDiff, Nat.reduceBEq, Nat.reduceLeDiff, Int.reduceToNat, Int.reduceLT, Int.reduceLE, Int.reduceEq, reduceCtorEq, ↓reduceIte, X57_14, k57_14]
  cases b124 : (p123 : Bool)
  · replace h := br_f b124 h
    obtain ⟨v129, q127, h⟩ := bnd_some h
    have w128 := e57_15 p6 s73 s107 (eqI r120 1) a0 r121 r122 s110 v129 q127
    simp only [X57_15] at w128
    try simp -implicitDefEqProofs only [go_sem, Nat.reduceLT, Nat.reduceAdd, Nat.reduceSub, Nat.reduceMul, Nat.reduceEqDiff, Nat.reduceBEq, Nat.reduceLeDiff, Int.reduceToNat, Int.reduceLT, Int.reduceLE, Int.reduceEq, reduceCtorEq, ↓reduceIte] at w128
    cases h
    simp -implicitDefEqProofs only [go_sem, Nat.reduceLT, Nat.reduceAdd, Nat.reduceSub, Nat.reduceMul, Nat.reduceEqDiff, Nat.reduceBEq, Nat.reduceLeDiff, Int.reduceToNat, Int.reduceLT, Int.reduceLE, Int.reduceEq, reduceCtorEq, ↓reduceIte, X57_14, k57_14, b124, w128]
  · replace h := br_t b124 h
    cases h
    simp -implicitDefEqProofs only [go_sem, Nat.reduceLT, Nat.reduceAdd, Nat.reduceSub, Nat.reduceMul, Nat.reduceEqDiff, Nat.reduceBEq, Nat.reduceLeDiff, Int.reduceToNat, Int.reduceLT, Int.reduceLE, Int.reduceEq, reduceCtorEq, ↓reduceIte, X57_14, k57_14, b124]
def X57_13 (p6 : Int) (s73 : Int) (s107 : Int) (a0 : l1Cur) (s108 : Int) (s109 : Int) (s110 : List Rel) (o : (Int × Int × List Rel)) : Ex × Fr × St :=
  (.normal, frOf 54 (upd (upd (upd (upd (upd anyF 0 (.ptr 0 0 0)) 4 (.int .i64 p6)) 5 (.sl 1 0 o.2.2.length)) 6 (.int .i64 s73)) 7 (.int .i64 s107)), [some ⟨.box, 3, [[.ts .imm 1 (a0.code.map encIntu8), .int .i64 o.1, .int .u64 o.2.1]]⟩, some ⟨.arr, 3, o.2.2.map encRel⟩])
theorem e57_13 (p6 : Int) (s73 : Int) (s107 : Int) (a0 : l1Cur) (s108 : Int) (s109 : Int) (s110 : List Rel) (o : (Int × Int × List Rel)) (h : m57_13 s73 s107 a0 s108 s109 s110 = some o) : evCL T 1 k57_13 (frOf 54 (upd (upd (upd (upd (upd anyF 0 (.ptr 0 0 0)) 4 (.int .i64 p6)) 5 (.sl 1 0 s110.length)) 6 (.int .i64 s73)) 7 (.int .i64 s107))) [some ⟨.box, 3, [[.ts .imm 1 (a0.code.map encIntu8), .int .i64 s108, .int .u64 s109]]⟩, some ⟨.arr, 3, s110.map encRel⟩] = some (X57_13 p6 s73 s107 a0 s108 s109 s110 o) := by
  unfold m57_13 at h
  obtain ⟨⟨r114, r115, r116⟩, q112, h⟩ := bnd_some h
  replace h := sel3_some h
  have w113 := e59 (⟨a0.code, s108, s109⟩ : l1Cur) 3 (r114, r115, r116) q112
  try simp -implicitDefEqProofs only [go_sem, Nat.reduceLT, Nat.reduceAdd, Nat.reduceSub, Nat.reduceMul, Nat.reduceEqDiff, Nat.reduceBEq, Nat.reduceLeDiff, Int.reduceToNat, Int.reduceLT, Int.reduceLE, Int.reduceEq, reduceCtorEq, ↓reduceIte] at w113
  try simp -implicitDefEqProofs only [go_sem, Nat.reduceLT, Nat.reduceAdd, Nat.reduceSub, Nat.reduceMul, Nat.reduceEqDiff, Nat.reduceBEq, Nat.reduceLeDiff, Int.reduceToNat, Int.reduceLT, Int.reduceLE, Int.reduceEq, reduceCtorEq, ↓reduceIte, X57_13, k57_13, w113]
  cases b117 : (r114 : Bool)
  · replace h := br_f b117 h
    cases h
    simp -implicitDefEqProofs only [go_sem, Nat.reduceLT, Nat.reduceAdd, Nat.reduceSub, Nat.reduceMul, Nat.reduceEqDiff, Nat.reduceBEq, Nat.reduceLeDiff, Int.reduceToNat, Int.reduceLT, Int.reduceLE, Int.reduceEq, reduceCtorEq, ↓reduceIte, X57_13, k57_13, w113, b117]
  · replace h := br_t b117 h
    obtain ⟨⟨r120, r121, r122⟩, q118, h⟩ := bnd_some h
    replace h := sel3_some h
    have w119 := e58 (⟨a0.code, r115, r116⟩ : l1Cur) 5 (r120, r121, r122) q118
    try simp -implicitDefEqProofs only [go_sem, Nat.reduceLT, Nat.reduceAdd, Nat.reduceSub, Nat.reduceMul, Nat.reduceEqDiff, Nat.reduceBEq, Nat.reduceLeDiff, Int.reduceToNat, Int.reduceLT, Int.reduceLE, Int.reduceEq, reduceCtorEq, ↓reduceIte] at w119
    obtain ⟨v132, q130, h⟩ := bnd_some h
    have w131 := e57_14 p6 s73 s107 r120 (eqI r120 0) a0 r121 r122 s110 v132 q130
    simp only [X57_14] at w131
    try simp -implicitDefEqProofs only [go_sem, Nat.reduceLT, Nat.reduceAdd, Nat.reduceSub, Nat.reduceMul, Nat.reduceEqDiff, Nat.reduceBEq, Nat.reduceLeDiff, Int.reduceToNat, Int.reduceLT, Int.reduceLE, Int.reduceEq, reduceCtorEq, ↓reduceIte] at w131
    obtain ⟨g133, h⟩ := ck_some h
    try simp -implicitDefEqProofs only [go_sem, Nat.reduceLT, Nat.reduceAdd, Nat.reduceSub, Nat.reduceMul, Nat.reduceEqDiff, Nat.reduceBEq, Nat.reduceLeDiff, Int.reduceToNat, Int.reduceLT, Int.reduceLE, Int.reduceEq, reduceCtorEq, ↓reduceIte] at g133
    cases h
    simp -implicitDefEqProofs only [go_sem, Nat.reduceLT, Nat.reduceAdd, Nat.reduceSub, Nat.reduceMul, Nat.reduceEqDiff, Nat.reduceBEq, Nat.reduceLeDiff, Int.reduceToNat, Int.reduceLT, Int.reduceLE, Int.reduceEq, reduceCtorEq, ↓reduceIte, X57_13, k57_13, w113, b117, w119, w131, g133]
def X57_9 (p6 : Int) (s73 : Int) (a0 : l1Cur) (o : (Int × Int × List Rel)) : Ex × Fr × St :=
  (.exit 2, frOf 54 (upd (upd (upd (upd anyF 0 (.ptr 0 0 0)) 4 (.int .i64 p6)) 5 (.sl 1 0 o.2.2.length)) 6 (.int .i64 s73)), [some ⟨.box, 3, [[.ts .imm 1 (a0.code.map encIntu8), .int .i64 o.1, .int .u64 o.2.1]]⟩, some ⟨.arr, 3, o.2.2.map encRel⟩])
def E57_9 (p6 : Int) (s73 : Int) (a0 : l1Cur) (s : (Int × Int × Int × List Rel)) : Fr × St := (frOf 54 (upd (upd (upd (upd (upd anyF 0 (.ptr 0 0 0)) 4 (.int .i64 p6)) 5 (.sl 1 0 s.2.2.2.length)) 6 (.int .i64 s73)) 7 (.int .i64 s.1)), [some ⟨.box, 3, [[.ts .imm 1 (a0.code.map encIntu8), .int .i64 s.2.1, .int .u64 s.2.2.1]]⟩, some ⟨.arr, 3, s.2.2.2.map encRel⟩])
theorem b57_9 (p6 : Int) (s73 : Int) (a0 : l1Cur) (s : (Int × Int × Int × List Rel)) (o : Ctl (Int × Int × Int × List Rel) (Int × Int × List Rel)) (h : m57_9b p6 s73 a0 s = some o) : evCL T 1 k57_9b (E57_9 p6 s73 a0 s).1 (E57_9 p6 s73 a0 s).2 = some (ctlX (E57_9 p6 s73 a0) (X57_9 p6 s73 a0) o) := by
  unfold m57_9b at h
  obtain ⟨s107, s108, s109, s110⟩ := s
  replace h := sel4_some h
  try simp -implicitDefEqProofs only [go_sem, Nat.reduceLT, Nat.reduceAdd, Nat.reduceSub, Nat.reduceMul, Nat.reduceEqDiff, Nat.reduceBEq, Nat.reduceLeDiff, Int.reduceToNat, Int.reduceLT, Int.reduceLE, Int.reduceEq, reduceCtorEq, ↓reduceIte, E57_9, X57_9, k57_9b]
  cases b111 : (leI s107 p6 : Bool)
  · replace h := br_f b111 h
    cases h
    simp -implicitDefEqProofs only [go_sem, Nat.reduceLT, Nat.reduceAdd, Nat.reduceSub, Nat.reduceMul, Nat.reduceEqDiff, Nat.reduceBEq, Nat.reduceLeDiff, Int.reduceToNat, Int.reduceLT, Int.reduceLE, Int.reduceEq, reduceCtorEq, ↓reduceIte, E57_9, X57_9, k57_9b, b111]
  · replace h := br_t b111 h
    obtain ⟨⟨v136, v137, v138⟩, q134, h⟩ := bnd_some h
    replace h := sel3_some h
    have w135 := e57_13 p6 s73 s107 a0 s108 s109 s110 (v136, v137, v138) q134
    simp only [X57_13] at w135
    try simp -implicitDefEqProofs only [go_sem, Nat.reduceLT, Nat.reduceAdd, Nat.reduceSub, Nat.reduceMul, Nat.reduceEqDiff, Nat.reduceBEq, Nat.reduceLeDiff, Int.reduceToNat, Int.reduceLT, Int.reduceLE, Int.reduceEq, reduceCtorEq, ↓reduceIte] at w135
    cases h
    simp -implicitDefEqProofs only [go_sem, Nat.reduceLT, Nat.reduceAdd, Nat.reduceSub, Nat.reduceMul, Nat.reduceEqDiff, Nat.reduceBEq, Nat.reduceLeDiff, Int.reduceToNat, Int.reduceLT, Int.reduceLE, Int.reduceEq, reduceCtorEq, ↓reduceIte, E57_9, X57_9, k57_9b, b111, w135]
theorem e57_9 (p6 : Int) (s73 : Int) (a0 : l1Cur) (s : (Int × Int × Int × List Rel)) (o : (Int × Int × List Rel)) (h : loopP (m57_9b p6 s73 a0) s = some o) : evCL T 1 (.loop k57_9b) (E57_9 p6 s73 a0 s).1 (E57_9 p6 s73 a0 s).2 = some (X57_9 p6 s73 a0 o) :=
  loop_walk (E := E57_9 p6 s73 a0) (X := X57_9 p6 s73 a0) (by intro b; (simp only [X57_9]; nofun)) (b57_9 p6 s73 a0) s o h
def X57_1 (p6 : Int) (a0 : l1Cur) (o : (Int × Int × List Rel)) : Ex × Fr × St :=
  (.exit 0, frOf 54 (upd (upd (upd anyF 0 (.ptr 0 0 0)) 4 (.int .i64 p6)) 5 (.sl 1 0 o.2.2.length)), [some ⟨.box, 3, [[.ts .imm 1 (a0.code.map encIntu8), .int .i64 o.1, .int .u64 o.2.1]]⟩, some ⟨.arr, 3, o.2.2.map encRel⟩])
def E57_1 (p6 : Int) (a0 : l1Cur) (s : (Int × Int × Int × List Rel)) : Fr × St := (frOf 54 (upd (upd (upd (upd anyF 0 (.ptr 0 0 0)) 4 (.int .i64 p6)) 5 (.sl 1 0 s.2.2.2.length)) 6 (.int .i64 s.1)), [some ⟨.box, 3, [[.ts .imm 1 (a0.code.map encIntu8), .int .i64 s.2.1, .int .u64 s.2.2.1]]⟩, some ⟨.arr, 3, s.2.2.2.map encRel⟩])
theorem b57_1 (p6 : Int) (a0 : l1Cur) (s : (Int × Int × Int × List Rel)) (o : Ctl (Int × Int × Int × List Rel) (Int × Int × List Rel)) (h : m57_1b p6 a0 s = some o) : evCL T 1 k57_1b (E57_1 p6 a0 s).1 (E57_1 p6 a0 s).2 = some (ctlX (E57_1 p6 a0) (X57_1 p6 a0) o) := by
  unfold m57_1b at h
  obtain ⟨s73, s74, s75, s76⟩ := s
  replace h := sel4_some h
  try simp -implicitDefEqProofs only [go_sem, Nat.reduceLT, Nat.reduceAdd, Nat.reduceSub, Nat.reduceMul, Nat.reduceEqDiff, Nat.reduceBEq, Nat.reduceLeDiff, Int.reduceToNat, Int.reduceLT, Int.reduceLE, Int.reduceEq, reduceCtorEq, ↓reduceIte, E57_1, X57_1, k57_1b]
  cases b77 : (ltI s73 p6 : Bool)
  · replace h := br_f b77 h
    cases h
    simp -implicitDefEqProofs only [go_sem, Nat.reduceLT, Nat.reduceAdd, Nat.reduceSub, Nat.reduceMul, Nat.reduceEqDiff, Nat.reduceBEq, Nat.reduceLeDiff, Int.reduceToNat, Int.reduceLT, Int.reduceLE, Int.reduceEq, reduceCtorEq, ↓reduceIte, E57_1, X57_1, k57_1b, b77]
  · replace h := br_t b77 h
    obtain ⟨⟨v141, v142, v143⟩, q139, h⟩ := bnd_some h
    replace h := sel3_some h
    have w140 := e57_9 p6 s73 a0 (wadd .i64 s73 1, s74, s75, s76) (v141, v142, v143) q139
    simp only [E57_9, X57_9] at w140
    try simp -implicitDefEqProofs only [go_sem, Nat.reduceLT, Nat.reduceAdd, Nat.reduceSub, Nat.reduceMul, Nat.reduceEqDiff, Nat.reduceBEq, Nat.reduceLeDiff, Int.reduceToNat, Int.reduceLT, Int.reduceLE, Int.reduceEq, reduceCtorEq, ↓reduceIte] at w140
    cases h
    simp -implicitDefEqProofs only [go_sem, Nat.reduceLT, Nat.reduceAdd, Nat.reduceSub, Nat.reduceMul, Nat.reduceEqDiff, Nat.reduceBEq, Nat.reduceLeDiff, Int.reduceToNat, Int.reduceLT, Int.reduceLE, Int.reduceEq, reduceCtorEq, ↓reduceIte, E57_1, X57_1, k57_1b, b77, w140]
theorem e57_1 (p6 : Int) (a0 : l1Cur) (s : (Int × Int × Int × List Rel)) (o : (Int × Int × List Rel)) (h : loopP (m57_1b p6 a0) s = some o) : evCL T 1 (.loop k57_1b) (E57_1 p6 a0 s).1 (E57_1 p6 a0 s).2 = some (X57_1 p6 a0 o) :=
  loop_walk (E := E57_1 p6 a0) (X := X57_1 p6 a0) (by intro b; (simp only [X57_1]; nofun)) (b57_1 p6 a0) s o h
def X57_16 (p154 : Int) (r151 : Bool) (a0 : l1Cur) (r152 : Int) (r153 : Int) (v148 : List Rel) (o : (Int × Int × List Rel)) : Ex × Fr × St :=
  (.normal, frOf 54 (upd (upd anyF 4 (.int .i64 p154)) 5 (.sl 1 0 o.2.2.length)), [some ⟨.box, 3, [[.ts .imm 1 (a0.code.map encIntu8), .int .i64 o.1, .int .u64 o.2.1]]⟩, some ⟨.arr, 3, o.2.2.map encRel⟩])
theorem e57_16 (p154 : Int) (r151 : Bool) (a0 : l1Cur) (r152 : Int) (r153 : Int) (v148 : List Rel) (o : (Int × Int × List Rel)) (h : m57_16 r151 a0 r152 r153 v148 = some o) : evCL T 1 k57_16 (frOf 54 (upd (upd (upd (upd anyF 0 (.ptr 0 0 0)) 4 (.int .i64 p154)) 5 (.sl 1 0 v148.length)) 41 (.bool r151))) [some ⟨.box, 3, [[.ts .imm 1 (a0.code.map encIntu8), .int .i64 r152, .int .u64 r153]]⟩, some ⟨.arr, 3, v148.map encRel⟩] = some (X57_16 p154 r151 a0 r152 r153 v148 o) := by
  unfold m57_16 at h
  try simp -implicitDefEqProofs only [go_sem, Nat.reduceLT, Nat.reduceAdd, Nat.reduceSub, Nat.reduceMul, Nat.reduceEqDiff, Nat.reduceBEq, Nat.reduceLeDiff, Int.reduceToNat, Int.reduceLT, Int.reduceLE, Int.reduceEq, reduceCtorEq, ↓reduceIte, X57_16, k57_16]
  cases b155 : (r151 : Bool)
  · replace h := br_f b155 h
    cases h
    simp -implicitDefEqProofs only [go_sem, Nat.reduceLT, Nat.reduceAdd, Nat.reduceSub, Nat.reduceMul, Nat.reduceEqDiff, Nat.reduceBEq, Nat.reduceLeDiff, Int.reduceToNat, Int.reduceLT, Int.reduceLE, Int.reduceEq, reduceCtorEq, ↓reduceIte, X57_16, k57_16, b155]
  · replace h := br_t b155 h
    obtain ⟨⟨r158, r159, r160⟩, q156, h⟩ := bnd_some h
    replace h := sel3_some h
    have w157 := e58 (⟨a0.code, r152, r153⟩ : l1Cur) 3 (r158, r159, r160) q156
    try simp -implicitDefEqProofs only [go_sem, Nat.reduceLT, Nat.reduceAdd, Nat.reduceSub, Nat.reduceMul, Nat.reduceEqDiff, Nat.reduceBEq, Nat.reduceLeDiff, Int.reduceToNat, Int.reduceLT, Int.reduceLE, Int.reduceEq, reduceCtorEq, ↓reduceIte] at w157
    obtain ⟨⟨r163, r164, r165⟩, q161, h⟩ := bnd_some h
    replace h := sel3_some h
    have w162 := e58 (⟨a0.code, r159, r160⟩ : l1Cur) 8 (r163, r164, r165) q161
    try simp -implicitDefEqProofs only [go_sem, Nat.reduceLT, Nat.reduceAdd, Nat.reduceSub, Nat.reduceMul, Nat.reduceEqDiff, Nat.reduceBEq, Nat.reduceLeDiff, Int.reduceToNat, Int.reduceLT, Int.reduceLE, Int.reduceEq, reduceCtorEq, ↓reduceIte] at w162
    obtain ⟨⟨r168, r169, r170⟩, q166, h⟩ := bnd_some h
    replace h := sel3_some h
    have w167 := e58 (⟨a0.code, r164, r165⟩ : l1Cur) 5 (r168, r169, r170) q166
    try simp -implicitDefEqProofs only [go_sem, Nat.reduceLT, Nat.reduceAdd, Nat.reduceSub, Nat.reduceMul, Nat.reduceEqDiff, Nat.reduceBEq, Nat.reduceLeDiff, Int.reduceToNat, Int.reduceLT, Int.reduceLE, Int.reduceEq, reduceCtorEq, ↓reduceIte] at w167
    obtain ⟨g171, h⟩ := ck_some h
    try simp -implicitDefEqProofs only [go_sem, Nat.reduceLT, Nat.reduceAdd, Nat.reduceSub, Nat.reduceMul, Nat.reduceEqDiff, Nat.reduceBEq, Nat.reduceLeDiff, Int.reduceToNat, Int.reduceLT, Int.reduceLE, Int.reduceEq, reduceCtorEq, ↓reduceIte] at g171
    cases h
    simp -implicitDefEqProofs only [go_sem, Nat.reduceLT, Nat.reduceAdd, Nat.reduceSub, Nat.reduceMul, Nat.reduceEqDiff, Nat.reduceBEq, Nat.reduceLeDiff, Int.reduceToNat, Int.reduceLT, Int.reduceLE, Int.reduceEq, reduceCtorEq, ↓reduceIte, X57_16, k57_16, b155, w157, w162, w167, g171]
theorem call57 (args : List AV) (S : St) : evCall T (evFL T) 57 args S = c3A true (evFL T 57) (rawAll S [[0]] args) := evCall3_a fn57 rfl args S
attribute [go_sem] call57
theorem e57 (a0 : l1Cur) (r : (Int × Int × Int × List Rel)) (h : m57 a0 = some r) : evFL T 57 [.ptr 0 0 0] [some ⟨.box, 3, [[.ts .imm 1 (a0.code.map encIntu8), .int .i64 a0.at_, .int .u64 a0.seed]]⟩] = some (.tup [.int .i64 r.1, .sl 1 0 r.2.2.2.length], [some ⟨.box, 3, [[.ts .imm 1 (a0.code.map encIntu8), .int .i64 r.2.1, .int .u64 r.2.2.1]]⟩, some ⟨.arr, 3, r.2.2.2.map encRel⟩]) := by
  unfold m57 at h
  rw [evFL_at fn57 (Nat.le_of_ble_eq_true rfl) rfl (.inl rfl)]
  obtain ⟨⟨r3, r4, r5⟩, q1, h⟩ := bnd_some h
  replace h := sel3_some h
  have w2 := e58 a0 4 (r3, r4, r5) q1
  try simp -implicitDefEqProofs only [go_sem, Nat.reduceLT, Nat.reduceAdd, Nat.reduceSub, Nat.reduceMul, Nat.reduceEqDiff, Nat.reduceBEq, Nat.reduceLeDiff, Int.reduceToNat, Int.reduceLT, Int.reduceLE, Int.reduceEq, reduceCtorEq, ↓reduceIte] at w2
  obtain ⟨⟨v146, v147, v148⟩, q144, h⟩ := bnd_some h
  replace h := sel3_some h
  have w145 := e57_1 (wadd .i64 1 r3) a0 (0, r4, r5, []) (v146, v147, v148) q144
  simp only [E57_1, X57_1] at w145
  try simp -implicitDefEqProofs only [go_sem, Nat.reduceLT, Nat.reduceAdd, Nat.reduceSub, Nat.reduceMul, Nat.reduceEqDiff, Nat.reduceBEq, Nat.reduceLeDiff, Int.reduceToNat, Int.reduceLT, Int.reduceLE, Int.reduceEq, reduceCtorEq, ↓reduceIte] at w145
  obtain ⟨⟨r151, r152, r153⟩, q149, h⟩ := bnd_some h
  replace h := sel3_some h
  have w150 := e59 (⟨a0.code, v146, v147⟩ : l1Cur) 30 (r151, r152, r153) q149
  try simp -implicitDefEqProofs only [go_sem, Nat.reduceLT, Nat.reduceAdd, Nat.reduceSub, Nat.reduceMul, Nat.reduceEqDiff, Nat.reduceBEq, Nat.reduceLeDiff, Int.reduceToNat, Int.reduceLT, Int.reduceLE, Int.reduceEq, reduceCtorEq, ↓reduceIte] at w150
  obtain ⟨⟨v174, v175, v176⟩, q172, h⟩ := bnd_some h
  replace h := sel3_some h
  have w173 := e57_16 (wadd .i64 1 r3) r151 a0 r152 r153 v148 (v174, v175, v176) q172
  simp only [X57_16] at w173
  try simp -implicitDefEqProofs only [go_sem, Nat.reduceLT, Nat.reduceAdd, Nat.reduceSub, Nat.reduceMul, Nat.reduceEqDiff, Nat.reduceBEq, Nat.reduceLeDiff, Int.reduceToNat, Int.reduceLT, Int.reduceLE, Int.reduceEq, reduceCtorEq, ↓reduceIte] at w173
  cases h
  simp -implicitDefEqProofs only [go_sem, Nat.reduceLT, Nat.reduceAdd, Nat.reduceSub, Nat.reduceMul, Nat.reduceEqDiff, Nat.reduceBEq, Nat.reduceLeDiff, Int.reduceToNat, Int.reduceLT, Int.reduceLE, Int.reduceEq, reduceCtorEq, ↓reduceIte, i57, c57, w2, w145, w150, w173]
-- f45 spec.l11Kind
def X45_4 (a1 : Int) (a2 : Int) (a0 : (List Rel)) (p1 : Int) (s18 : Int) (x20 : Rel) (o : Bool) : Ex × Fr × St :=
  (.normal, frOf 41 (upd (upd (upd (upd (upd (upd (upd anyF 1 (.int .i64 a1)) 2 (.int .i64 a2)) 8 (.ptr 0 0 0)) 9 (.ts .imm 3 (a0.map encRel))) 10 (.int .i64 p1)) 11 (.int .i64 s18)) 24 (.bool o)), [some ⟨.box, 3, [[.int .i64 x20.a, .int .i64 x20.b, .int .i64 x20.kind]]⟩])
theorem e45_4 (a1 : Int) (a2 : Int) (a0 : (List Rel)) (p1 : Int) (s18 : Int) (x20 : Rel) (o : Bool) (h : m45_4 a1 a2 x20 = some o) : evCL T 0 k45_4 (frOf 41 (upd (upd (upd (upd (upd (upd anyF 1 (.int .i64 a1)) 2 (.int .i64 a2)) 8 (.ptr 0 0 0)) 9 (.ts .imm 3 (a0.map encRel))) 10 (.int .i64 p1)) 11 (.int .i64 s18))) [some ⟨.box, 3, [[.int .i64 x20.a, .int .i64 x20.b, .int .i64 x20.kind]]⟩] = some (X45_4 a1 a2 a0 p1 s18 x20 o) := by
  unfold m45_4 at h
  try simp -implicitDefEqProofs only [go_sem, Nat.reduceLT, Nat.reduceAdd, Nat.reduceSub, Nat.reduceMul, Nat.reduceEqDiff, Nat.reduceBEq, Nat.reduceLeDiff, Int.reduceToNat, Int.reduceLT, Int.reduceLE, Int.reduceEq, reduceCtorEq, ↓reduceIte, X45_4, k45_4]
  cases b25 : (eqI x20.a a1 : Bool)
  · replace h := br_f b25 h
    cases h
    simp -implicitDefEqProofs only [go_sem, Nat.reduceLT, Nat.reduceAdd, Nat.reduceSub, Nat.reduceMul, Nat.reduceEqDiff, Nat.reduceBEq, Nat.reduceLeDiff, Int.reduceToNat, Int.reduceLT, Int.reduceLE, Int.reduceEq, reduceCtorEq, ↓reduceIte, X45_4, k45_4, b25]
  · replace h := br_t b25 h
    cases h
    simp -implicitDefEqProofs only [go_sem, Nat.reduceLT, Nat.reduceAdd, Nat.reduceSub, Nat.reduceMul, Nat.reduceEqDiff, Nat.reduceBEq, Nat.reduceLeDiff, Int.reduceToNat, Int.reduceLT, Int.reduceLE, Int.reduceEq, reduceCtorEq, ↓reduceIte, X45_4, k45_4, b25]
def X45_5 (a1 : Int) (a2 : Int) (a0 : (List Rel)) (p1 : Int) (s18 : Int) (x20 : Rel) (o : Bool) : Ex × Fr × St :=
  (.normal, frOf 41 (upd (upd (upd (upd (upd (upd (upd anyF 1 (.int .i64 a1)) 2 (.int .i64 a2)) 8 (.ptr 0 0 0)) 9 (.ts .imm 3 (a0.map encRel))) 10 (.int .i64 p1)) 11 (.int .i64 s18)) 36 (.bool o)), [some ⟨.box, 3, [[.int .i64 x20.a, .int .i64 x20.b, .int .i64 x20.kind]]⟩])
theorem e45_5 (a1 : Int) (a2 : Int) (a0 : (List Rel)) (p1 : Int) (s18 : Int) (x20 : Rel) (o : Bool) (h : m45_5 a1 a2 x20 = some o) : evCL T 0 k45_5 (frOf 41 (upd (upd (upd (upd (upd (upd anyF 1 (.int .i64 a1)) 2 (.int .i64 a2)) 8 (.ptr 0 0 0)) 9 (.ts .imm 3 (a0.map encRel))) 10 (.int .i64 p1)) 11 (.int .i64 s18))) [some ⟨.box, 3, [[.int .i64 x20.a, .int .i64 x20.b, .int .i64 x20.kind]]⟩] = some (X45_5 a1 a2 a0 p1 s18 x20 o) := by
  unfold m45_5 at h
  try simp -implicitDefEqProofs only [go_sem, Nat.reduceLT, Nat.reduceAdd, Nat.reduceSub, Nat.reduceMul, Nat.reduceEqDiff, Nat.reduceBEq, Nat.reduceLeDiff, Int.reduceToNat, Int.reduceLT, Int.reduceLE, Int.reduceEq, reduceCtorEq, ↓reduceIte, X45_5, k45_5]
  cases b30 : (eqI x20.a a2 : Bool)
  · replace h := br_f b30 h
    cases h
    simp -implicitDefEqProofs only [go_sem, Nat.reduceLT, Nat.reduceAdd, Nat.reduceSub, Nat.reduceMul, Nat.reduceEqDiff, Nat.reduceBEq, Nat.reduceLeDiff, Int.reduceToNat, Int.reduceLT, Int.reduceLE, Int.reduceEq, reduceCtorEq, ↓reduceIte, X45_5, k45_5, b30]
  · replace h := br_t b30 h
    cases h
    simp -implicitDefEqProofs only [go_sem, Nat.reduceLT, Nat.reduceAdd, Nat.reduceSub, Nat.reduceMul, Nat.reduceEqDiff, Nat.reduceBEq, Nat.reduceLeDiff, Int.reduceToNat, Int.reduceLT, Int.reduceLE, Int.reduceEq, reduceCtorEq, ↓reduceIte, X45_5, k45_5, b30]
def X45_1 (a1 : Int) (a2 : Int) (a0 : (List Rel)) (p1 : Int) (o : (Unit ⊕ Int)) : Ex × Fr × St :=
  match o with
  | .inl o => (.exit 0, frOf 41 (anyF), [])
  | .inr o => (.ret, frOf 41 (upd anyF 6 (.int .i64 o)), [])
def E45_1 (a1 : Int) (a2 : Int) (a0 : (List Rel)) (p1 : Int) (s : Int) : Fr × St := (frOf 41 (upd (upd (upd (upd (upd anyF 1 (.int .i64 a1)) 2 (.int .i64 a2)) 9 (.ts .imm 3 (a0.map encRel))) 10 (.int .i64 p1)) 11 (.int .i64 s)), [])
theorem b45_1 (a1 : Int) (a2 : Int) (a0 : (List Rel)) (p1 : Int) (s : Int) (o : Ctl Int (Unit ⊕ Int)) (h : m45_1b a1 a2 a0 p1 s = some o) : evCL T 0 k45_1b (E45_1 a1 a2 a0 p1 s).1 (E45_1 a1 a2 a0 p1 s).2 = some (ctlX (E45_1 a1 a2 a0 p1) (X45_1 a1 a2 a0 p1) o) := by
  unfold m45_1b at h
  revert h
  generalize s = s18
  intro h
  try simp -implicitDefEqProofs only [go_sem, Nat.reduceLT, Nat.reduceAdd, Nat.reduceSub, Nat.reduceMul, Nat.reduceEqDiff, Nat.reduceBEq, Nat.reduceLeDiff, Int.reduceToNat, Int.reduceLT, Int.reduceLE, Int.reduceEq, reduceCtorEq, ↓reduceIte, E45_1, X45_1, k45_1b]
  cases b19 : (ltI s18 p1 : Bool)
  · replace h := br_f b19 h
    cases h
    simp -implicitDefEqProofs only [go_sem, Nat.reduceLT, Nat.reduceAdd, Nat.reduceSub, Nat.reduceMul, Nat.reduceEqDiff, Nat.reduceBEq, Nat.reduceLeDiff, Int.reduceToNat, Int.reduceLT, Int.reduceLE, Int.reduceEq, reduceCtorEq, ↓reduceIte, E45_1, X45_1, k45_1b, b19]
  · replace h := br_t b19 h
    obtain ⟨x20, q21, h⟩ := bnd_some h
    obtain ⟨g22, g23, g24⟩ := idx_row encRel q21
    try simp -implicitDefEqProofs only [go_sem, Nat.reduceLT, Nat.reduceAdd, Nat.reduceSub, Nat.reduceMul, Nat.reduceEqDiff, Nat.reduceBEq, Nat.reduceLeDiff, Int.reduceToNat, Int.reduceLT, Int.reduceLE, Int.reduceEq, reduceCtorEq, ↓reduceIte] at g23
    try simp -implicitDefEqProofs only [go_sem, Nat.reduceLT, Nat.reduceAdd, Nat.reduceSub, Nat.reduceMul, Nat.reduceEqDiff, Nat.reduceBEq, Nat.reduceLeDiff, Int.reduceToNat, Int.reduceLT, Int.reduceLE, Int.reduceEq, reduceCtorEq, ↓reduceIte] at g24
    obtain ⟨v28, q26, h⟩ := bnd_some h
    have w27 := e45_4 a1 a2 a0 p1 s18 x20 v28 q26
    simp only [X45_4] at w27
    try simp -implicitDefEqProofs only [go_sem, Nat.reduceLT, Nat.reduceAdd, Nat.reduceSub, Nat.reduceMul, Nat.reduceEqDiff, Nat.reduceBEq, Nat.reduceLeDiff, Int.reduceToNat, Int.reduceLT, Int.reduceLE, Int.reduceEq, reduceCtorEq, ↓reduceIte] at w27
    try simp -implicitDefEqProofs only [go_sem, Nat.reduceLT, Nat.reduceAdd, Nat.reduceSub, Nat.reduceMul, Nat.reduceEqDiff, Nat.reduceBEq, Nat.reduceLeDiff, Int.reduceToNat, Int.reduceLT, Int.reduceLE, Int.reduceEq, reduceCtorEq, ↓reduceIte, E45_1, X45_1, k45_1b, b19, g22, g23, g24, w27]
    cases b29 : (v28 : Bool)
    · replace h := br_f b29 h
      obtain ⟨v33, q31, h⟩ := bnd_some h
      have w32 := e45_5 a1 a2 a0 p1 s18 x20 v33 q31
      simp only [X45_5] at w32
      try simp -implicitDefEqProofs only [go_sem, Nat.reduceLT, Nat.reduceAdd, Nat.reduceSub, Nat.reduceMul, Nat.reduceEqDiff, Nat.reduceBEq, Nat.reduceLeDiff, Int.reduceToNat, Int.reduceLT, Int.reduceLE, Int.reduceEq, reduceCtorEq, ↓reduceIte] at w32
      try simp -implicitDefEqProofs only [go_sem, Nat.reduceLT, Nat.reduceAdd, Nat.reduceSub, Nat.reduceMul, Nat.reduceEqDiff, Nat.reduceBEq, Nat.reduceLeDiff, Int.reduceToNat, Int.reduceLT, Int.reduceLE, Int.reduceEq, reduceCtorEq, ↓reduceIte, E45_1, X45_1, k45_1b, b19, g22, g23, g24, w27, b29, w32]
      cases b34 : (v33 : Bool)
      · replace h := br_f b34 h
        cases h
        simp -implicitDefEqProofs only [go_sem, Nat.reduceLT, Nat.reduceAdd, Nat.reduceSub, Nat.reduceMul, Nat.reduceEqDiff, Nat.reduceBEq, Nat.reduceLeDiff, Int.reduceToNat, Int.reduceLT, Int.reduceLE, Int.reduceEq, reduceCtorEq, ↓reduceIte, E45_1, X45_1, k45_1b, b19, g22, g23, g24, w27, b29, w32, b34]
      · replace h := br_t b34 h
        cases h
        simp -implicitDefEqProofs only [go_sem, Nat.reduceLT, Nat.reduceAdd, Nat.reduceSub, Nat.reduceMul, Nat.reduceEqDiff, Nat.reduceBEq, Nat.reduceLeDiff, Int.reduceToNat, Int.reduceLT, Int.reduceLE, Int.reduceEq, reduceCtorEq, ↓reduceIte, E45_1, X45_1, k45_1b, b19, g22, g23, g24, w27, b29, w32, b34]
    · replace h := br_t b29 h
      cases h
      simp -implicitDefEqProofs only [go_sem, Nat.reduceLT, Nat.reduceAdd, Nat.reduceSub, Nat.reduceMul, Nat.reduceEqDiff, Nat.reduceBEq, Nat.reduceLeDiff, Int.reduceToNat, Int.reduceLT, Int.reduceLE, Int.reduceEq, reduceCtorEq, ↓reduceIte, E45_1, X45_1, k45_1b, b19, g22, g23, g24, w27, b29]
theorem e45_1 (a1 : Int) (a2 : Int) (a0 : (List Rel)) (p1 : Int) (s : Int) (o : (Unit ⊕ Int)) (h : loopP (m45_1b a1 a2 a0 p1) s = some o) : evCL T 0 (.loop k45_1b) (E45_1 a1 a2 a0 p1 s).1 (E45_1 a1 a2 a0 p1 s).2 = some (X45_1 a1 a2 a0 p1 o) :=
  loop_walk (E := E45_1 a1 a2 a0 p1) (X := X45_1 a1 a2 a0 p1) (by intro b; rcases b with b | b <;> (simp only [X45_1]; nofun)) (b45_1 a1 a2 a0 p1) s o h
theorem call45 (args : List AV) (S : St) : evCall T (evFL T) 45 args S = lendC (evFL T 45) S (lendAll S [[3], [0], [0]] args) := evCall0 fn45 rfl rfl args S
theorem callz45 (args : List AV) (S : St) : evCallFz T (evFL T) 45 args S = lendZ (evFL T 45) S [[0]] (lendAll S [[3], [0], [0]] args) := evCallFz0 fn45 rfl rfl args S
attribute [go_sem] call45 callz45
theorem e45 (a0 : (List Rel)) (a1 : Int) (a2 : Int) (r : Int) (h : m45 a0 a1 a2 = some r) : evFL T 45 [.ts .imm 3 (a0.map encRel), .int .i64 a1, .int .i64 a2] [] = some (.int .i64 r, []) := by
  unfold m45 at h
  rw [evFL_at fn45 (Nat.le_of_ble_eq_true rfl) rfl (.inr rfl)]
  try simp -implicitDefEqProofs only [go_sem, Nat.reduceLT, Nat.reduceAdd, Nat.reduceSub, Nat.reduceMul, Nat.reduceEqDiff, Nat.reduceBEq, Nat.reduceLeDiff, Int.reduceToNat, Int.reduceLT, Int.reduceLE, Int.reduceEq, reduceCtorEq, ↓reduceIte, i45, c45]
  obtain ⟨o, q35, h⟩ := bnd_some h
  rcases o with ⟨⟩ | v37
  · replace h := selS_l h
    have w36 := e45_1 a1 a2 a0 (↑a0.length : Int) 0 (.inl ()) q35
    simp only [E45_1, X45_1] at w36
    try simp -implicitDefEqProofs only [go_sem, Nat.reduceLT, Nat.reduceAdd, Nat.reduceSub, Nat.reduceMul, Nat.reduceEqDiff, Nat.reduceBEq, Nat.reduceLeDiff, Int.reduceToNat, Int.reduceLT, Int.reduceLE, Int.reduceEq, reduceCtorEq, ↓reduceIte] at w36
    cases h
    simp -implicitDefEqProofs only [go_sem, Nat.reduceLT, Nat.reduceAdd, Nat.reduceSub, Nat.reduceMul, Nat.reduceEqDiff, Nat.reduceBEq, Nat.reduceLeDiff, Int.reduceToNat, Int.reduceLT, Int.reduceLE, Int.reduceEq, reduceCtorEq, ↓reduceIte, i45, c45, w36]
  · replace h := selS_r h
    have w36 := e45_1 a1 a2 a0 (↑a0.length : Int) 0 (.inr v37) q35
    simp only [E45_1, X45_1] at w36
    try simp -implicitDefEqProofs only [go_sem, Nat.reduceLT, Nat.reduceAdd, Nat.reduceSub, Nat.reduceMul, Nat.reduceEqDiff, Nat.reduceBEq, Nat.reduceLeDiff, Int.reduceToNat, Int.reduceLT, Int.reduceLE, Int.reduceEq, reduceCtorEq, ↓reduceIte] at w36
    cases h
    simp -implicitDefEqProofs only [go_sem, Nat.reduceLT, Nat.reduceAdd, Nat.reduceSub, Nat.reduceMul, Nat.reduceEqDiff, Nat.reduceBEq, Nat.reduceLeDiff, Int.reduceToNat, Int.reduceLT, Int.reduceLE, Int.reduceEq, reduceCtorEq, ↓reduceIte, i45, c45, w36]
-- f47 spec.l1Has
def X47_1 (a1 : Int) (a0 : (List Int)) (p1 : Int) (o : (Unit ⊕ Unit)) : Ex × Fr × St :=
  match o with
  | .inl o => (.exit 0, frOf 17 (anyF), [])
  | .inr o => (.ret, frOf 17 (upd anyF 4 (.bool true)), [])
def E47_1 (a1 : Int) (a0 : (List Int)) (p1 : Int) (s : Int) : Fr × St := (frOf 17 (upd (upd (upd (upd anyF 1 (.int .i64 a1)) 7 (.ts .imm 1 (a0.map encInt))) 8 (.int .i64 p1)) 9 (.int .i64 s)), [])
theorem b47_1 (a1 : Int) (a0 : (List Int)) (p1 : Int) (s : Int) (o : Ctl Int (Unit ⊕ Unit)) (h : m47_1b a1 a0 p1 s = some o) : evCL T 0 k47_1b (E47_1 a1 a0 p1 s).1 (E47_1 a1 a0 p1 s).2 = some (ctlX (E47_1 a1 a0 p1) (X47_1 a1 a0 p1) o) := by
  unfold m47_1b at h
  revert h
  generalize s = s9
  intro h
  try simp -implicitDefEqProofs only [go_sem, Nat.reduceLT, Nat.reduceAdd, Nat.reduceSub, Nat.reduceMul, Nat.reduceEqDiff, Nat.reduceBEq, Nat.reduceLeDiff, Int.reduceToNat, Int.reduceLT, Int.reduceLE, Int.reduceEq, reduceCtorEq, ↓reduceIte, E47_1, X47_1, k47_1b]
  cases b10 : (ltI s9 p1 : Bool)
  · replace h := br_f b10 h
    cases h
    simp -implicitDefEqProofs only [go_sem, Nat.reduceLT, Nat.reduceAdd, Nat.reduceSub, Nat.reduceMul, Nat.reduceEqDiff, Nat.reduceBEq, Nat.reduceLeDiff, Int.reduceToNat, Int.reduceLT, Int.reduceLE, Int.reduceEq, reduceCtorEq, ↓reduceIte, E47_1, X47_1, k47_1b, b10]
  · replace h := br_t b10 h
    obtain ⟨x11, q12, h⟩ := bnd_some h
    obtain ⟨g13, g14, g15⟩ := idx_row encInt q12
    try simp -implicitDefEqProofs only [go_sem, Nat.reduceLT, Nat.reduceAdd, Nat.reduceSub, Nat.reduceMul, Nat.reduceEqDiff, Nat.reduceBEq, Nat.reduceLeDiff, Int.reduceToNat, Int.reduceLT, Int.reduceLE, Int.reduceEq, reduceCtorEq, ↓reduceIte] at g14
    try simp -implicitDefEqProofs only [go_sem, Nat.reduceLT, Nat.reduceAdd, Nat.reduceSub, Nat.reduceMul, Nat.reduceEqDiff, Nat.reduceBEq, Nat.reduceLeDiff, Int.reduceToNat, Int.reduceLT, Int.reduceLE, Int.reduceEq, reduceCtorEq, ↓reduceIte] at g15
    try simp -implicitDefEqProofs only [go_sem, Nat.reduceLT, Nat.reduceAdd, Nat.reduceSub, Nat.reduceMul, Nat.reduceEqDiff, Nat.reduceBEq, Nat.reduceLeDiff, Int.reduceToNat, Int.reduceLT, Int.reduceLE, Int.reduceEq, reduceCtorEq, ↓reduceIte, E47_1, X47_1, k47_1b, b10, g13, g14, g15]
    cases b16 : (eqI x11 a1 : Bool)
    · replace h := br_f b16 h
      cases h
      simp -implicitDefEqProofs only [go_sem, Nat.reduceLT, Nat.reduceAdd, Nat.reduceSub, Nat.reduceMul, Nat.reduceEqDiff, Nat.reduceBEq, Nat.reduceLeDiff, Int.reduceToNat, Int.reduceLT, Int.reduceLE, Int.reduceEq, reduceCtorEq, ↓reduceIte, E47_1, X47_1, k47_1b, b10, g13, g14, g15, b16]
    · replace h := br_t b16 h
      cases h
      simp -implicitDefEqProofs only [go_sem, Nat.reduceLT, Nat.reduceAdd, Nat.reduceSub, Nat.reduceMul, Nat.reduceEqDiff, Nat.reduceBEq, Nat.reduceLeDiff, Int.reduceToNat, Int.reduceLT, Int.reduceLE, Int.reduceEq, reduceCtorEq, ↓reduceIte, E47_1, X47_1, k47_1b, b10, g13, g14, g15, b16]
theorem e47_1 (a1 : Int) (a0 : (List Int)) (p1 : Int) (s : Int) (o : (Unit ⊕ Unit)) (h : loopP (m47_1b a1 a0 p1) s = some o) : evCL T 0 (.loop k47_1b) (E47_1 a1 a0 p1 s).1 (E47_1 a1 a0 p1 s).2 = some (X47_1 a1 a0 p1 o) :=
  loop_walk (E := E47_1 a1 a0 p1) (X := X47_1 a1 a0 p1) (by intro b; rcases b with b | b <;> (simp only [X47_1]; nofun)) (b47_1 a1 a0 p1) s o h
theorem call47 (args : List AV) (S : St) : evCall T (evFL T) 47 args S = lendC (evFL T 47) S (lendAll S [[1], [0]] args) := evCall0 fn47 rfl rfl args S
theorem callz47 (args : List AV) (S : St) : evCallFz T (evFL T) 47 args S = lendZ (evFL T 47) S [[0]] (lendAll S [[1], [0]] args) := evCallFz0 fn47 rfl rfl args S
attribute [go_sem] call47 callz47
theorem e47 (a0 : (List Int)) (a1 : Int) (r : Bool) (h : m47 a0 a1 = some r) : evFL T 47 [.ts .imm 1 (a0.map encInt), .int .i64 a1] [] = some (.bool r, []) := by
  unfold m47 at h
  rw [evFL_at fn47 (Nat.le_of_ble_eq_true rfl) rfl (.inr rfl)]
  try simp -implicitDefEqProofs only [go_sem, Nat.reduceLT, Nat.reduceAdd, Nat.reduceSub, Nat.reduceMul, Nat.reduceEqDiff, Nat.reduceBEq, Nat.reduceLeDiff, Int.reduceToNat, Int.reduceLT, Int.reduceLE, Int.reduceEq, reduceCtorEq, ↓reduceIte, i47, c47]
  obtain ⟨o, q17, h⟩ := bnd_some h
  rcases o with ⟨⟩ | ⟨⟩
  · replace h := selS_l h
    have w18 := e47_1 a1 a0 (↑a0.length : Int) 0 (.inl ()) q17
    simp only [E47_1, X47_1] at w18
    try simp -implicitDefEqProofs only [go_sem, Nat.reduceLT, Nat.reduceAdd, Nat.reduceSub, Nat.reduceMul, Nat.reduceEqDiff, Nat.reduceBEq, Nat.reduceLeDiff, Int.reduceToNat, Int.reduceLT, Int.reduceLE, Int.reduceEq, reduceCtorEq, ↓reduceIte] at w18
    cases h
    simp -implicitDefEqProofs only [go_sem, Nat.reduceLT, Nat.reduceAdd, Nat.reduceSub, Nat.reduceMul, Nat.reduceEqDiff, Nat.reduceBEq, Nat.reduceLeDiff, Int.reduceToNat, Int.reduceLT, Int.reduceLE, Int.reduceEq, reduceCtorEq, ↓reduceIte, i47, c47, w18]
  · replace h := selS_r h
    have w18 := e47_1 a1 a0 (↑a0.length : Int) 0 (.inr ()) q17
    simp only [E47_1, X47_1] at w18
    try simp -implicitDefEqProofs only [go_sem, Nat.reduceLT, Nat.reduceAdd, Nat.reduceSub, Nat.reduceMul, Nat.reduceEqDiff, Nat.reduceBEq, Nat.reduceLeDiff, Int.reduceToNat, Int.reduceLT, Int.reduceLE, Int.reduceEq, reduceCtorEq, ↓reduceIte] at w18
    cases h
    simp -implicitDefEqProofs only [go_sem, Nat.reduceLT, Nat.reduceAdd, Nat.reduceSub, Nat.reduceMul, Nat.reduceEqDiff, Nat.reduceBEq, Nat.reduceLeDiff, Int.reduceToNat, Int.reduceLT, Int.reduceLE, Int.reduceEq, reduceCtorEq, ↓reduceIte, i47, c47, w18]
-- f26 spec.DrawIsValleyFree
def X26_4 (r3 : Int) (s44 : Int) (r51 : Int) (a0 : (List Int)) (r52 : Int) (r53 : Int) (r6 : List Rel) (s47 : List Int) (o : Bool) : Ex × Fr × St :=
  (.normal, frOf 64 (upd (upd (upd (upd (upd (upd (upd anyF 5 (.ptr 0 0 0)) 6 (.int .i64 r3)) 7 (.sl 1 0 r6.length)) 8 (.sl 2 0 s47.length)) 9 (.int .i64 s44)) 10 (.int .i64 r51)) 49 (.bool o)), [some ⟨.box, 3, [[.ts .imm 1 (a0.map encIntu8), .int .i64 r52, .int .u64 r53]]⟩, some ⟨.arr, 3, r6.map encRel⟩, some ⟨.arr, 1, s47.map encInt⟩])
theorem e26_4 (r3 : Int) (s44 : Int) (r51 : Int) (a0 : (List Int)) (r52 : Int) (r53 : Int) (r6 : List Rel) (s47 : List Int) (o : Bool) (h : m26_4 r51 r6 s47 = some o) : evCL T 0 k26_4 (frOf 64 (upd (upd (upd (upd (upd (upd anyF 5 (.ptr 0 0 0)) 6 (.int .i64 r3)) 7 (.sl 1 0 r6.length)) 8 (.sl 2 0 s47.length)) 9 (.int .i64 s44)) 10 (.int .i64 r51))) [some ⟨.box, 3, [[.ts .imm 1 (a0.map encIntu8), .int .i64 r52, .int .u64 r53]]⟩, some ⟨.arr, 3, r6.map encRel⟩, some ⟨.arr, 1, s47.map encInt⟩] = some (X26_4 r3 s44 r51 a0 r52 r53 r6 s47 o) := by
  unfold m26_4 at h
  obtain ⟨x54, q55, h⟩ := bnd_some h
  obtain ⟨g56, g57, g58⟩ := idx_row encInt q55
  try simp -implicitDefEqProofs only [go_sem, Nat.reduceLT, Nat.reduceAdd, Nat.reduceSub, Nat.reduceMul, Nat.reduceEqDiff, Nat.reduceBEq, Nat.reduceLeDiff, Int.reduceToNat, Int.reduceLT, Int.reduceLE, Int.reduceEq, reduceCtorEq, ↓reduceIte] at g57
  try simp -implicitDefEqProofs only [go_sem, Nat.reduceLT, Nat.reduceAdd, Nat.reduceSub, Nat.reduceMul, Nat.reduceEqDiff, Nat.reduceBEq, Nat.reduceLeDiff, Int.reduceToNat, Int.reduceLT, Int.reduceLE, Int.reduceEq, reduceCtorEq, ↓reduceIte] at g58
  obtain ⟨r61, q59, h⟩ := bnd_some h
  have w60 := e45 r6 x54 r51 r61 q59
  try simp -implicitDefEqProofs only [go_sem, Nat.reduceLT, Nat.reduceAdd, Nat.reduceSub, Nat.reduceMul, Nat.reduceEqDiff, Nat.reduceBEq, Nat.reduceLeDiff, Int.reduceToNat, Int.reduceLT, Int.reduceLE, Int.reduceEq, reduceCtorEq, ↓reduceIte] at w60
  try simp -implicitDefEqProofs only [go_sem, Nat.reduceLT, Nat.reduceAdd, Nat.reduceSub, Nat.reduceMul, Nat.reduceEqDiff, Nat.reduceBEq, Nat.reduceLeDiff, Int.reduceToNat, Int.reduceLT, Int.reduceLE, Int.reduceEq, reduceCtorEq, ↓reduceIte, X26_4, k26_4, g56, g57, g58, w60]
  cases b62 : (eqI r61 0 : Bool)
  · replace h := br_f b62 h
    obtain ⟨r65, q63, h⟩ := bnd_some h
    have w64 := e47 s47 r51 r65 q63
    try simp -implicitDefEqProofs only [go_sem, Nat.reduceLT, Nat.reduceAdd, Nat.reduceSub, Nat.reduceMul, Nat.reduceEqDiff, Nat.reduceBEq, Nat.reduceLeDiff, Int.reduceToNat, Int.reduceLT, Int.reduceLE, Int.reduceEq, reduceCtorEq, ↓reduceIte] at w64
    cases h
    simp -implicitDefEqProofs only [go_sem, Nat.reduceLT, Nat.reduceAdd, Nat.reduceSub, Nat.reduceMul, Nat.reduceEqDiff, Nat.reduceBEq, Nat.reduceLeDiff, Int.reduceToNat, Int.reduceLT, Int.reduceLE, Int.reduceEq, reduceCtorEq, ↓reduceIte, X26_4, k26_4, g56, g57, g58, w60, b62, w64]
  · replace h := br_t b62 h
    cases h
    simp -implicitDefEqProofs only [go_sem, Nat.reduceLT, Nat.reduceAdd, Nat.reduceSub, Nat.reduceMul, Nat.reduceEqDiff, Nat.reduceBEq, Nat.reduceLeDiff, Int.reduceToNat, Int.reduceLT, Int.reduceLE, Int.reduceEq, reduceCtorEq, ↓reduceIte, X26_4, k26_4, g56, g57, g58, w60, b62]
def X26_5 (r3 : Int) (s44 : Int) (r51 : Int) (v68 : Bool) (a0 : (List Int)) (r52 : Int) (r53 : Int) (r6 : List Rel) (s47 : List Int) (o : (List Int)) : Ex × Fr × St :=
  (.normal, frOf 64 (upd (upd (upd (upd (upd anyF 5 (.ptr 0 0 0)) 6 (.int .i64 r3)) 7 (.sl 1 0 r6.length)) 8 (.sl 2 0 o.length)) 9 (.int .i64 s44)), [some ⟨.box, 3, [[.ts .imm 1 (a0.map encIntu8), .int .i64 r52, .int .u64 r53]]⟩, some ⟨.arr, 3, r6.map encRel⟩, some ⟨.arr, 1, o.map encInt⟩])
theorem e26_5 (r3 : Int) (s44 : Int) (r51 : Int) (v68 : Bool) (a0 : (List Int)) (r52 : Int) (r53 : Int) (r6 : List Rel) (s47 : List Int) (o : (List Int)) (h : m26_5 r51 v68 s47 = some o) : evCL T 0 k26_5 (frOf 64 (upd (upd (upd (upd (upd (upd (upd anyF 5 (.ptr 0 0 0)) 6 (.int .i64 r3)) 7 (.sl 1 0 r6.length)) 8 (.sl 2 0 s47.length)) 9 (.int .i64 s44)) 10 (.int .i64 r51)) 49 (.bool v68))) [some ⟨.box, 3, [[.ts .imm 1 (a0.map encIntu8), .int .i64 r52, .int .u64 r53]]⟩, some ⟨.arr, 3, r6.map encRel⟩, some ⟨.arr, 1, s47.map encInt⟩] = some (X26_5 r3 s44 r51 v68 a0 r52 r53 r6 s47 o) := by
  unfold m26_5 at h
  try simp -implicitDefEqProofs only [go_sem, Nat.reduceLT, Nat.reduceAdd, Nat.reduceSub, Nat.reduceMul, Nat.reduceEqDiff, Nat.reduceBEq, Nat.reduceLeDiff, Int.reduceToNat, Int.reduceLT, Int.reduceLE, Int.reduceEq, reduceCtorEq, ↓reduceIte, X26_5, k26_5]
  cases b69 : (v68 : Bool)
  · replace h := br_f b69 h
    cases h
    simp -implicitDefEqProofs only [go_sem, Nat.reduceLT, Nat.reduceAdd, Nat.reduceSub, Nat.reduceMul, Nat.reduceEqDiff, Nat.reduceBEq, Nat.reduceLeDiff, Int.reduceToNat, Int.reduceLT, Int.reduceLE, Int.reduceEq, reduceCtorEq, ↓reduceIte, X26_5, k26_5, b69]
  · replace h := br_t b69 h
    obtain ⟨g70, h⟩ := ck_some h
    try simp -implicitDefEqProofs only [go_sem, Nat.reduceLT, Nat.reduceAdd, Nat.reduceSub, Nat.reduceMul, Nat.reduceEqDiff, Nat.reduceBEq, Nat.reduceLeDiff, Int.reduceToNat, Int.reduceLT, Int.reduceLE, Int.reduceEq, reduceCtorEq, ↓reduceIte] at g70
    cases h
    simp -implicitDefEqProofs only [go_sem, Nat.reduceLT, Nat.reduceAdd, Nat.reduceSub, Nat.reduceMul, Nat.reduceEqDiff, Nat.reduceBEq, Nat.reduceLeDiff, Int.reduceToNat, Int.reduceLT, Int.reduceLE, Int.reduceEq, reduceCtorEq, ↓reduceIte, X26_5, k26_5, b69, g70]
def X26_1 (r3 : Int) (a0 : (List Int)) (r6 : List Rel) (o : (Int × Int × List Int)) : Ex × Fr × St :=
  (.exit 0, frOf 64 (upd (upd (upd (upd anyF 5 (.ptr 0 0 0)) 6 (.int .i64 r3)) 7 (.sl 1 0 r6.length)) 8 (.sl 2 0 o.2.2.length)), [some ⟨.box, 3, [[.ts .imm 1 (a0.map encIntu8), .int .i64 o.1, .int .u64 o.2.1]]⟩, some ⟨.arr, 3, r6.map encRel⟩, some ⟨.arr, 1, o.2.2.map encInt⟩])
def E26_1 (r3 : Int) (a0 : (List Int)) (r6 : List Rel) (s : (Int × Int × Int × List Int)) : Fr × St := (frOf 64 (upd (upd (upd (upd (upd anyF 5 (.ptr 0 0 0)) 6 (.int .i64 r3)) 7 (.sl 1 0 r6.length)) 8 (.sl 2 0 s.2.2.2.length)) 9 (.int .i64 s.1)), [some ⟨.box, 3, [[.ts .imm 1 (a0.map encIntu8), .int .i64 s.2.1, .int .u64 s.2.2.1]]⟩, some ⟨.arr, 3, r6.map encRel⟩, some ⟨.arr, 1, s.2.2.2.map encInt⟩])
theorem b26_1 (r3 : Int) (a0 : (List Int)) (r6 : List Rel) (s : (Int × Int × Int × List Int)) (o : Ctl (Int × Int × Int × List Int) (Int × Int × List Int)) (h : m26_1b r3 a0 r6 s = some o) : evCL T 0 k26_1b (E26_1 r3 a0 r6 s).1 (E26_1 r3 a0 r6 s).2 = some (ctlX (E26_1 r3 a0 r6) (X26_1 r3 a0 r6) o) := by
  unfold m26_1b at h
  obtain ⟨s44, s45, s46, s47⟩ := s
  replace h := sel4_some h
  try simp -implicitDefEqProofs only [go_sem, Nat.reduceLT, Nat.reduceAdd, Nat.reduceSub, Nat.reduceMul, Nat.reduceEqDiff, Nat.reduceBEq, Nat.reduceLeDiff, Int.reduceToNat, Int.reduceLT, Int.reduceLE, Int.reduceEq, reduceCtorEq, ↓reduceIte, E26_1, X26_1, k26_1b]
  cases b48 : (ltI 0 s44 : Bool)
  · replace h := br_f b48 h
    cases h
    simp -implicitDefEqProofs only [go_sem, Nat.reduceLT, Nat.reduceAdd, Nat.reduceSub, Nat.reduceMul, Nat.reduceEqDiff, Nat.reduceBEq, Nat.reduceLeDiff, Int.reduceToNat, Int.reduceLT, Int.reduceLE, Int.reduceEq, reduceCtorEq, ↓reduceIte, E26_1, X26_1, k26_1b, b48]
  · replace h := br_t b48 h
    obtain ⟨⟨r51, r52, r53⟩, q49, h⟩ := bnd_some h
    replace h := sel3_some h
    have w50 := e58 (⟨a0, s45, s46⟩ : l1Cur) (wadd .i64 r3 1) (r51, r52, r53) q49
    try simp -implicitDefEqProofs only [go_sem, Nat.reduceLT, Nat.reduceAdd, Nat.reduceSub, Nat.reduceMul, Nat.reduceEqDiff, Nat.reduceBEq, Nat.reduceLeDiff, Int.reduceToNat, Int.reduceLT, Int.reduceLE, Int.reduceEq, reduceCtorEq, ↓reduceIte] at w50
    obtain ⟨v68, q66, h⟩ := bnd_some h
    have w67 := e26_4 r3 s44 r51 a0 r52 r53 r6 s47 v68 q66
    simp only [X26_4] at w67
    try simp -implicitDefEqProofs only [go_sem, Nat.reduceLT, Nat.reduceAdd, Nat.reduceSub, Nat.reduceMul, Nat.reduceEqDiff, Nat.reduceBEq, Nat.reduceLeDiff, Int.reduceToNat, Int.reduceLT, Int.reduceLE, Int.reduceEq, reduceCtorEq, ↓reduceIte] at w67
    obtain ⟨v73, q71, h⟩ := bnd_some h
    have w72 := e26_5 r3 s44 r51 v68 a0 r52 r53 r6 s47 v73 q71
    simp only [X26_5] at w72
    try simp -implicitDefEqProofs only [go_sem, Nat.reduceLT, Nat.reduceAdd, Nat.reduceSub, Nat.reduceMul, Nat.reduceEqDiff, Nat.reduceBEq, Nat.reduceLeDiff, Int.reduceToNat, Int.reduceLT, Int.reduceLE, Int.reduceEq, reduceCtorEq, ↓reduceIte] at w72
    cases h
    simp -implicitDefEqProofs only [go_sem, Nat.reduceLT, Nat.reduceAdd, Nat.reduceSub, Nat.reduceMul, Nat.reduceEqDiff, Nat.reduceBEq, Nat.reduceLeDiff, Int.reduceToNat, Int.reduceLT, Int.reduceLE, Int.reduceEq, reduceCtorEq, ↓reduceIte, E26_1, X26_1, k26_1b, b48, w50, w67, w72]
theorem e26_1 (r3 : Int) (a0 : (List Int)) (r6 : List Rel) (s : (Int × Int × Int × List Int)) (o : (Int × Int × List Int)) (h : loopP (m26_1b r3 a0 r6) s = some o) : evCL T 0 (.loop k26_1b) (E26_1 r3 a0 r6 s).1 (E26_1 r3 a0 r6 s).2 = some (X26_1 r3 a0 r6 o) :=
  loop_walk (E := E26_1 r3 a0 r6) (X := X26_1 r3 a0 r6) (by intro b; (simp only [X26_1]; nofun)) (b26_1 r3 a0 r6) s o h
def X26_6 (r3 : Int) (r81 : Bool) (a0 : (List Int)) (r82 : Int) (r83 : Int) (r6 : List Rel) (v78 : List Int) (o : (List Int)) : Ex × Fr × St :=
  (.normal, frOf 64 (upd (upd (upd anyF 6 (.int .i64 r3)) 7 (.sl 0 0 r6.length)) 8 (.sl 1 0 o.length)), [some ⟨.arr, 3, r6.map encRel⟩, some ⟨.arr, 1, o.map encInt⟩])
theorem e26_6 (r3 : Int) (r81 : Bool) (a0 : (List Int)) (r82 : Int) (r83 : Int) (r6 : List Rel) (v78 : List Int) (o : (List Int)) (h : m26_6 r81 a0 r82 r83 v78 = some o) : evCL T 0 k26_6 (frOf 64 (upd (upd (upd (upd (upd anyF 5 (.ptr 0 0 0)) 6 (.int .i64 r3)) 7 (.sl 1 0 r6.length)) 8 (.sl 2 0 v78.length)) 55 (.bool r81))) [some ⟨.box, 3, [[.ts .imm 1 (a0.map encIntu8), .int .i64 r82, .int .u64 r83]]⟩, some ⟨.arr, 3, r6.map encRel⟩, some ⟨.arr, 1, v78.map encInt⟩] = some (X26_6 r3 r81 a0 r82 r83 r6 v78 o) := by
  unfold m26_6 at h
  try simp -implicitDefEqProofs only [go_sem, Nat.reduceLT, Nat.reduceAdd, Nat.reduceSub, Nat.reduceMul, Nat.reduceEqDiff, Nat.reduceBEq, Nat.reduceLeDiff, Int.reduceToNat, Int.reduceLT, Int.reduceLE, Int.reduceEq, reduceCtorEq, ↓reduceIte, X26_6, k26_6]
  cases b84 : (r81 : Bool)
  · replace h := br_f b84 h
    cases h
    simp -implicitDefEqProofs only [go_sem, Nat.reduceLT, Nat.reduceAdd, Nat.reduceSub, Nat.reduceMul, Nat.reduceEqDiff, Nat.reduceBEq, Nat.reduceLeDiff, Int.reduceToNat, Int.reduceLT, Int.reduceLE, Int.reduceEq, reduceCtorEq, ↓reduceIte, X26_6, k26_6, b84]
  · replace h := br_t b84 h
    obtain ⟨⟨r87, r88, r89⟩, q85, h⟩ := bnd_some h
    replace h := sel3_some h
    have w86 := e58 (⟨a0, r82, r83⟩ : l1Cur) 7 (r87, r88, r89) q85
    try simp -implicitDefEqProofs only [go_sem, Nat.reduceLT, Nat.reduceAdd, Nat.reduceSub, Nat.reduceMul, Nat.reduceEqDiff, Nat.reduceBEq, Nat.reduceLeDiff, Int.reduceToNat, Int.reduceLT, Int.reduceLE, Int.reduceEq, reduceCtorEq, ↓reduceIte] at w86
    obtain ⟨g90, h⟩ := ck_some h
    try simp -implicitDefEqProofs only [go_sem, Nat.reduceLT, Nat.reduceAdd, Nat.reduceSub, Nat.reduceMul, Nat.reduceEqDiff, Nat.reduceBEq, Nat.reduceLeDiff, Int.reduceToNat, Int.reduceLT, Int.reduceLE, Int.reduceEq, reduceCtorEq, ↓reduceIte] at g90
    cases h
    simp -implicitDefEqProofs only [go_sem, Nat.reduceLT, Nat.reduceAdd, Nat.reduceSub, Nat.reduceMul, Nat.reduceEqDiff, Nat.reduceBEq, Nat.reduceLeDiff, Int.reduceToNat, Int.reduceLT, Int.reduceLE, Int.reduceEq, reduceCtorEq, ↓reduceIte, X26_6, k26_6, b84, w86, g90]
theorem call26 (args : List AV) (S : St) : evCall T (evFL T) 26 args S = lendC (evFL T 26) S (lendAll S [[1]] args) := evCall0 fn26 rfl rfl args S
theorem callz26 (args : List AV) (S : St) : evCallFz T (evFL T) 26 args S = lendZ (evFL T 26) S [[0], [3], [1]] (lendAll S [[1]] args) := evCallFz0 fn26 rfl rfl args S
attribute [go_sem] call26 callz26
theorem e26 (a0 : (List Int)) (r : (Int × (List Rel) × (List Int))) (h : m26 a0 = some r) : evFL T 26 [.ts .imm 1 (a0.map encIntu8)] [] = some (.tup [.int .i64 r.1, .sl 0 0 r.2.1.length, .sl 1 0 r.2.2.length], [some ⟨.arr, 3, r.2.1.map encRel⟩, some ⟨.arr, 1, r.2.2.map encInt⟩]) := by
  unfold m26 at h
  rw [evFL_at fn26 (Nat.le_of_ble_eq_true rfl) rfl (.inr rfl)]
  obtain ⟨⟨r3, r4, r5, r6⟩, q1, h⟩ := bnd_some h
  replace h := sel4_some h
  have w2 := e57 (⟨a0, 0, 0⟩ : l1Cur) (r3, r4, r5, r6) q1
  try simp -implicitDefEqProofs only [go_sem, Nat.reduceLT, Nat.reduceAdd, Nat.reduceSub, Nat.reduceMul, Nat.reduceEqDiff, Nat.reduceBEq, Nat.reduceLeDiff, Int.reduceToNat, Int.reduceLT, Int.reduceLE, Int.reduceEq, reduceCtorEq, ↓reduceIte] at w2
  obtain ⟨⟨r9, r10, r11⟩, q7, h⟩ := bnd_some h
  replace h := sel3_some h
  have w8 := e58 (⟨a0, r4, r5⟩ : l1Cur) (wadd .i64 r3 1) (r9, r10, r11) q7
  try simp -implicitDefEqProofs only [go_sem, Nat.reduceLT, Nat.reduceAdd, Nat.reduceSub, Nat.reduceMul, Nat.reduceEqDiff, Nat.reduceBEq, Nat.reduceLeDiff, Int.reduceToNat, Int.reduceLT, Int.reduceLE, Int.reduceEq, reduceCtorEq, ↓reduceIte] at w8
  obtain ⟨⟨r14, r15, r16⟩, q12, h⟩ := bnd_some h
  replace h := sel3_some h
  have w13 := e58 (⟨a0, r10, r11⟩ : l1Cur) 5 (r14, r15, r16) q12
  try simp -implicitDefEqProofs only [go_sem, Nat.reduceLT, Nat.reduceAdd, Nat.reduceSub, Nat.reduceMul, Nat.reduceEqDiff, Nat.reduceBEq, Nat.reduceLeDiff, Int.reduceToNat, Int.reduceLT, Int.reduceLE, Int.reduceEq, reduceCtorEq, ↓reduceIte] at w13
  obtain ⟨⟨v76, v77, v78⟩, q74, h⟩ := bnd_some h
  replace h := sel3_some h
  have w75 := e26_1 r3 a0 r6 (r14, r15, r16, [r9]) (v76, v77, v78) q74
  simp only [E26_1, X26_1] at w75
  try simp -implicitDefEqProofs only [go_sem, Nat.reduceLT, Nat.reduceAdd, Nat.reduceSub, Nat.reduceMul, Nat.reduceEqDiff, Nat.reduceBEq, Nat.reduceLeDiff, Int.reduceToNat, Int.reduceLT, Int.reduceLE, Int.reduceEq, reduceCtorEq, ↓reduceIte] at w75
  obtain ⟨⟨r81, r82, r83⟩, q79, h⟩ := bnd_some h
  replace h := sel3_some h
  have w80 := e59 (⟨a0, v76, v77⟩ : l1Cur) 20 (r81, r82, r83) q79
  try simp -implicitDefEqProofs only [go_sem, Nat.reduceLT, Nat.reduceAdd, Nat.reduceSub, Nat.reduceMul, Nat.reduceEqDiff, Nat.reduceBEq, Nat.reduceLeDiff, Int.reduceToNat, Int.reduceLT, Int.reduceLE, Int.reduceEq, reduceCtorEq, ↓reduceIte] at w80
  obtain ⟨v93, q91, h⟩ := bnd_some h
  have w92 := e26_6 r3 r81 a0 r82 r83 r6 v78 v93 q91
  simp only [X26_6] at w92
  try simp -implicitDefEqProofs only [go_sem, Nat.reduceLT, Nat.reduceAdd, Nat.reduceSub, Nat.reduceMul, Nat.reduceEqDiff, Nat.reduceBEq, Nat.reduceLeDiff, Int.reduceToNat, Int.reduceLT, Int.reduceLE, Int.reduceEq, reduceCtorEq, ↓reduceIte] at w92
  cases h
  simp -implicitDefEqProofs only [go_sem, Nat.reduceLT, Nat.reduceAdd, Nat.reduceSub, Nat.reduceMul, Nat.reduceEqDiff, Nat.reduceBEq, Nat.reduceLeDiff, Int.reduceToNat, Int.reduceLT, Int.reduceLE, Int.reduceEq, reduceCtorEq, ↓reduceIte, i26, c26, w2, w8, w13, w75, w80, w92]
-- f41 impl.within
def X41_1 (a0 : Int) (a1 : Int) (a2 : Int) (o : Bool) : Ex × Fr × St :=
  (.normal, frOf 15 (upd anyF 6 (.bool o)), [])
theorem e41_1 (a0 : Int) (a1 : Int) (a2 : Int) (o : Bool) (h : m41_1 a0 a1 a2 = some o) : evCL T 0 k41_1 (frOf 15 (upd (upd (upd anyF 0 (.int .i64 a0)) 1 (.int .i64 a1)) 2 (.int .i64 a2))) [] = some (X41_1 a0 a1 a2 o) := by
  unfold m41_1 at h
  try simp -implicitDefEqProofs only [go_sem, Nat.reduceLT, Nat.reduceAdd, Nat.reduceSub, Nat.reduceMul, Nat.reduceEqDiff, Nat.reduceBEq, Nat.reduceLeDiff, Int.reduceToNat, Int.reduceLT, Int.reduceLE, Int.reduceEq, reduceCtorEq, ↓reduceIte, X41_1, k41_1]
  cases b1 : (leI a1 a0 : Bool)
  · replace h := br_f b1 h
    cases h
    simp -implicitDefEqProofs only [go_sem, Nat.reduceLT, Nat.reduceAdd, Nat.reduceSub, Nat.reduceMul, Nat.reduceEqDiff, Nat.reduceBEq, Nat.reduceLeDiff, Int.reduceToNat, Int.reduceLT, Int.reduceLE, Int.reduceEq, reduceCtorEq, ↓reduceIte, X41_1, k41_1, b1]
  · replace h := br_t b1 h
    cases h
    simp -implicitDefEqProofs only [go_sem, Nat.reduceLT, Nat.reduceAdd, Nat.reduceSub, Nat.reduceMul, Nat.reduceEqDiff, Nat.reduceBEq, Nat.reduceLeDiff, Int.reduceToNat, Int.reduceLT, Int.reduceLE, Int.reduceEq, reduceCtorEq, ↓reduceIte, X41_1, k41_1, b1]
theorem call41 (args : List AV) (S : St) : evCall T (evFL T) 41 args S = lendC (evFL T 41) S (lendAll S [[0], [0], [0]] args) := evCall0 fn41 rfl rfl args S
theorem callz41 (args : List AV) (S : St) : evCallFz T (evFL T) 41 args S = lendZ (evFL T 41) S [[0]] (lendAll S [[0], [0], [0]] args) := evCallFz0 fn41 rfl rfl args S
attribute [go_sem] call41 callz41
theorem e41 (a0 : Int) (a1 : Int) (a2 : Int) (r : Bool) (h : m41 a0 a1 a2 = some r) : evFL T 41 [.int .i64 a0, .int .i64 a1, .int .i64 a2] [] = some (.bool r, []) := by
  unfold m41 at h
  rw [evFL_at fn41 (Nat.le_of_ble_eq_true rfl) rfl (.inr rfl)]
  obtain ⟨v4, q2, h⟩ := bnd_some h
  have w3 := e41_1 a0 a1 a2 v4 q2
  simp only [X41_1] at w3
  try simp -implicitDefEqProofs only [go_sem, Nat.reduceLT, Nat.reduceAdd, Nat.reduceSub, Nat.reduceMul, Nat.reduceEqDiff, Nat.reduceBEq, Nat.reduceLeDiff, Int.reduceToNat, Int.reduceLT, Int.reduceLE, Int.reduceEq, reduceCtorEq, ↓reduceIte] at w3
  cases h
  simp -implicitDefEqProofs only [go_sem, Nat.reduceLT, Nat.reduceAdd, Nat.reduceSub, Nat.reduceMul, Nat.reduceEqDiff, Nat.reduceBEq, Nat.reduceLeDiff, Int.reduceToNat, Int.reduceLT, Int.reduceLE, Int.reduceEq, reduceCtorEq, ↓reduceIte, i41, c41, w3]
-- f70 slices.IndexFunc[[]impl.Rel,impl.Rel]
def X70_1 (a1_f : Nat) (a1_c : List AV) (a0 : (List Rel)) (p1 : Int) (a1 : (Rel → Option Bool)) (o : (Unit ⊕ Int)) : Ex × Fr × St :=
  match o with
  | .inl o => (.exit 0, frOf 19 (anyF), [])
  | .inr o => (.ret, frOf 19 (upd anyF 4 (.int .i64 o)), [])
def E70_1 (a1_f : Nat) (a1_c : List AV) (a0 : (List Rel)) (p1 : Int) (a1 : (Rel → Option Bool)) (s : Int) : Fr × St := (frOf 19 (upd (upd (upd (upd anyF 0 (.ts .imm 3 (a0.map encRel))) 1 (.fn a1_f a1_c)) 7 (.int .i64 p1)) 8 (.int .i64 s)), [])
theorem b70_1 (a0 : (List Rel)) (p1 : Int) (a1 : (Rel → Option Bool)) (a1_f : Nat) (a1_c : List AV) (a1_h : ((∀ S, mapO (lendPtr S) a1_c = some a1_c) ∧ (∀ n0 src R tm t c, tdL n0 src R tm t c a1_c = some a1_c)) ∧ ∀ y0 r, a1 y0 = some r → (∀ S, evCall T (evFL T) a1_f ([.agg [.int .i64 y0.a, .int .i64 y0.b, .int .i64 y0.kind]] ++ a1_c) S = some (.bool r, S)) ∧ (∀ S, evCallFz T (evFL T) a1_f ([.agg [.int .i64 y0.a, .int .i64 y0.b, .int .i64 y0.kind]] ++ a1_c) S = some (.bool r, S))) (s : Int) (o : Ctl Int (Unit ⊕ Int)) (h : m70_1b a0 p1 a1 s = some o) : evCL T 0 k70_1b (E70_1 a1_f a1_c a0 p1 a1 s).1 (E70_1 a1_f a1_c a0 p1 a1 s).2 = some (ctlX (E70_1 a1_f a1_c a0 p1 a1) (X70_1 a1_f a1_c a0 p1 a1) o) := by
  unfold m70_1b at h
  revert h
  generalize s = s12
  intro h
  try simp -implicitDefEqProofs only [go_sem, Nat.reduceLT, Nat.reduceAdd, Nat.reduceSub, Nat.reduceMul, Nat.reduceEqDiff, Nat.reduceBEq, Nat.reduceLeDiff, Int.reduceToNat, Int.reduceLT, Int.reduceLE, Int.reduceEq, reduceCtorEq, ↓reduceIte, E70_1, X70_1, k70_1b, a1_h.1]
  cases b13 : (ltI s12 p1 : Bool)
  · replace h := br_f b13 h
    cases h
    simp -implicitDefEqProofs only [go_sem, Nat.reduceLT, Nat.reduceAdd, Nat.reduceSub, Nat.reduceMul, Nat.reduceEqDiff, Nat.reduceBEq, Nat.reduceLeDiff, Int.reduceToNat, Int.reduceLT, Int.reduceLE, Int.reduceEq, reduceCtorEq, ↓reduceIte, E70_1, X70_1, k70_1b, a1_h.1, b13]
  · replace h := br_t b13 h
    obtain ⟨x14, q15, h⟩ := bnd_some h
    obtain ⟨g16, g17, g18⟩ := idx_row encRel q15
    try simp -implicitDefEqProofs only [go_sem, Nat.reduceLT, Nat.reduceAdd, Nat.reduceSub, Nat.reduceMul, Nat.reduceEqDiff, Nat.reduceBEq, Nat.reduceLeDiff, Int.reduceToNat, Int.reduceLT, Int.reduceLE, Int.reduceEq, reduceCtorEq, ↓reduceIte] at g17
    try simp -implicitDefEqProofs only [go_sem, Nat.reduceLT, Nat.reduceAdd, Nat.reduceSub, Nat.reduceMul, Nat.reduceEqDiff, Nat.reduceBEq, Nat.reduceLeDiff, Int.reduceToNat, Int.reduceLT, Int.reduceLE, Int.reduceEq, reduceCtorEq, ↓reduceIte] at g18
    obtain ⟨r19, q20, h⟩ := bnd_some h
    have w21 := a1_h.2 x14 r19 q20
    try simp -implicitDefEqProofs only [go_sem, Nat.reduceLT, Nat.reduceAdd, Nat.reduceSub, Nat.reduceMul, Nat.reduceEqDiff, Nat.reduceBEq, Nat.reduceLeDiff, Int.reduceToNat, Int.reduceLT, Int.reduceLE, Int.reduceEq, reduceCtorEq, ↓reduceIte] at w21
    try simp -implicitDefEqProofs only [go_sem, Nat.reduceLT, Nat.reduceAdd, Nat.reduceSub, Nat.reduceMul, Nat.reduceEqDiff, Nat.reduceBEq, Nat.reduceLeDiff, Int.reduceToNat, Int.reduceLT, Int.reduceLE, Int.reduceEq, reduceCtorEq, ↓reduceIte, E70_1, X70_1, k70_1b, a1_h.1, b13, g16, g17, g18, w21.1, w21.2]
    cases b22 : (r19 : Bool)
    · replace h := br_f b22 h
      cases h
      simp -implicitDefEqProofs only [go_sem, Nat.reduceLT, Nat.reduceAdd, Nat.reduceSub, Nat.reduceMul, Nat.reduceEqDiff, Nat.reduceBEq, Nat.reduceLeDiff, Int.reduceToNat, Int.reduceLT, Int.reduceLE, Int.reduceEq, reduceCtorEq, ↓reduceIte, E70_1, X70_1, k70_1b, a1_h.1, b13, g16, g17, g18, w21.1, w21.2, b22]
    · replace h := br_t b22 h
      cases h
      simp -implicitDefEqProofs only [go_sem, Nat.reduceLT, Nat.reduceAdd, Nat.reduceSub, Nat.reduceMul, Nat.reduceEqDiff, Nat.reduceBEq, Nat.reduceLeDiff, Int.reduceToNat, Int.reduceLT, Int.reduceLE, Int.reduceEq, reduceCtorEq, ↓reduceIte, E70_1, X70_1, k70_1b, a1_h.1, b13, g16, g17, g18, w21.1, w21.2, b22]
theorem e70_1 (a0 : (List Rel)) (p1 : Int) (a1 : (Rel → Option Bool)) (a1_f : Nat) (a1_c : List AV) (a1_h : ((∀ S, mapO (lendPtr S) a1_c = some a1_c) ∧ (∀ n0 src R tm t c, tdL n0 src R tm t c a1_c = some a1_c)) ∧ ∀ y0 r, a1 y0 = some r → (∀ S, evCall T (evFL T) a1_f ([.agg [.int .i64 y0.a, .int .i64 y0.b, .int .i64 y0.kind]] ++ a1_c) S = some (.bool r, S)) ∧ (∀ S, evCallFz T (evFL T) a1_f ([.agg [.int .i64 y0.a, .int .i64 y0.b, .int .i64 y0.kind]] ++ a1_c) S = some (.bool r, S))) (s : Int) (o : (Unit ⊕ Int)) (h : loopP (m70_1b a0 p1 a1) s = some o) : evCL T 0 (.loop k70_1b) (E70_1 a1_f a1_c a0 p1 a1 s).1 (E70_1 a1_f a1_c a0 p1 a1 s).2 = some (X70_1 a1_f a1_c a0 p1 a1 o) :=
  loop_walk (E := E70_1 a1_f a1_c a0 p1 a1) (X := X70_1 a1_f a1_c a0 p1 a1) (by intro b; rcases b with b | b <;> (simp only [X70_1]; nofun)) (b70_1 a0 p1 a1 a1_f a1_c a1_h) s o h
theorem call70 (args : List AV) (S : St) : evCall T (evFL T) 70 args S = lendC (evFL T 70) S (lendAll S [[3], [0]] args) := evCall0 fn70 rfl rfl args S
theorem callz70 (args : List AV) (S : St) : evCallFz T (evFL T) 70 args S = lendZ (evFL T 70) S [[0]] (lendAll S [[3], [0]] args) := evCallFz0 fn70 rfl rfl args S
attribute [go_sem] call70 callz70
theorem e70 (a0 : (List Rel)) (a1 : (Rel → Option Bool)) (a1_f : Nat) (a1_c : List AV) (a1_h : ((∀ S, mapO (lendPtr S) a1_c = some a1_c) ∧ (∀ n0 src R tm t c, tdL n0 src R tm t c a1_c = some a1_c)) ∧ ∀ y0 r, a1 y0 = some r → (∀ S, evCall T (evFL T) a1_f ([.agg [.int .i64 y0.a, .int .i64 y0.b, .int .i64 y0.kind]] ++ a1_c) S = some (.bool r, S)) ∧ (∀ S, evCallFz T (evFL T) a1_f ([.agg [.int .i64 y0.a, .int .i64 y0.b, .int .i64 y0.kind]] ++ a1_c) S = some (.bool r, S))) (r : Int) (h : m70 a0 a1 = some r) : evFL T 70 [.ts .imm 3 (a0.map encRel), .fn a1_f a1_c] [] = some (.int .i64 r, []) := by
  unfold m70 at h
  rw [evFL_at fn70 (Nat.le_of_ble_eq_true rfl) rfl (.inr rfl)]
  try simp -implicitDefEqProofs only [go_sem, Nat.reduceLT, Nat.reduceAdd, Nat.reduceSub, Nat.reduceMul, Nat.reduceEqDiff, Nat.reduceBEq, Nat.reduceLeDiff, Int.reduceToNat, Int.reduceLT, Int.reduceLE, Int.reduceEq, reduceCtorEq, ↓reduceIte, i70, c70, a1_h.1]
  obtain ⟨o, q23, h⟩ := bnd_some h
  rcases o with ⟨⟩ | v25
  · replace h := selS_l h
    have w24 := e70_1 a0 (↑a0.length : Int) a1 a1_f a1_c a1_h 0 (.inl ()) q23
    simp only [E70_1, X70_1] at w24
    try simp -implicitDefEqProofs only [go_sem, Nat.reduceLT, Nat.reduceAdd, Nat.reduceSub, Nat.reduceMul, Nat.reduceEqDiff, Nat.reduceBEq, Nat.reduceLeDiff, Int.reduceToNat, Int.reduceLT, Int.reduceLE, Int.reduceEq, reduceCtorEq, ↓reduceIte] at w24
    cases h
    simp -implicitDefEqProofs only [go_sem, Nat.reduceLT, Nat.reduceAdd, Nat.reduceSub, Nat.reduceMul, Nat.reduceEqDiff, Nat.reduceBEq, Nat.reduceLeDiff, Int.reduceToNat, Int.reduceLT, Int.reduceLE, Int.reduceEq, reduceCtorEq, ↓reduceIte, i70, c70, a1_h.1, w24]
  · replace h := selS_r h
    have w24 := e70_1 a0 (↑a0.length : Int) a1 a1_f a1_c a1_h 0 (.inr v25) q23
    simp only [E70_1, X70_1] at w24
    try simp -implicitDefEqProofs only [go_sem, Nat.reduceLT, Nat.reduceAdd, Nat.reduceSub, Nat.reduceMul, Nat.reduceEqDiff, Nat.reduceBEq, Nat.reduceLeDiff, Int.reduceToNat, Int.reduceLT, Int.reduceLE, Int.reduceEq, reduceCtorEq, ↓reduceIte] at w24
    cases h
    simp -implicitDefEqProofs only [go_sem, Nat.reduceLT, Nat.reduceAdd, Nat.reduceSub, Nat.reduceMul, Nat.reduceEqDiff, Nat.reduceBEq, Nat.reduceLeDiff, Int.reduceToNat, Int.reduceLT, Int.reduceLE, Int.reduceEq, reduceCtorEq, ↓reduceIte, i70, c70, a1_h.1, w24]
-- f42 slices.ContainsFunc[[]impl.Rel,impl.Rel]
theorem call42 (args : List AV) (S : St) : evCall T (evFL T) 42 args S = lendC (evFL T 42) S (lendAll S [[3], [0]] args) := evCall0 fn42 rfl rfl args S
theorem callz42 (args : List AV) (S : St) : evCallFz T (evFL T) 42 args S = lendZ (evFL T 42) S [[0]] (lendAll S [[3], [0]] args) := evCallFz0 fn42 rfl rfl args S
attribute [go_sem] call42 callz42
theorem e42 (a0 : (List Rel)) (a1 : (Rel → Option Bool)) (a1_f : Nat) (a1_c : List AV) (a1_h : ((∀ S, mapO (lendPtr S) a1_c = some a1_c) ∧ (∀ n0 src R tm t c, tdL n0 src R tm t c a1_c = some a1_c)) ∧ ∀ y0 r, a1 y0 = some r → (∀ S, evCall T (evFL T) a1_f ([.agg [.int .i64 y0.a, .int .i64 y0.b, .int .i64 y0.kind]] ++ a1_c) S = some (.bool r, S)) ∧ (∀ S, evCallFz T (evFL T) a1_f ([.agg [.int .i64 y0.a, .int .i64 y0.b, .int .i64 y0.kind]] ++ a1_c) S = some (.bool r, S))) (r : Bool) (h : m42 a0 a1 = some r) : evFL T 42 [.ts .imm 3 (a0.map encRel), .fn a1_f a1_c] [] = some (.bool r, []) := by
  unfold m42 at h
  rw [evFL_at fn42 (Nat.le_of_ble_eq_true rfl) rfl (.inr rfl)]
  obtain ⟨r3, q1, h⟩ := bnd_some h
  have w2 := e70 a0 a1 a1_f a1_c a1_h r3 q1
  try simp -implicitDefEqProofs only [go_sem, Nat.reduceLT, Nat.reduceAdd, Nat.reduceSub, Nat.reduceMul, Nat.reduceEqDiff, Nat.reduceBEq, Nat.reduceLeDiff, Int.reduceToNat, Int.reduceLT, Int.reduceLE, Int.reduceEq, reduceCtorEq, ↓reduceIte] at w2
  cases h
  simp -implicitDefEqProofs only [go_sem, Nat.reduceLT, Nat.reduceAdd, Nat.reduceSub, Nat.reduceMul, Nat.reduceEqDiff, Nat.reduceBEq, Nat.reduceLeDiff, Int.reduceToNat, Int.reduceLT, Int.reduceLE, Int.reduceEq, reduceCtorEq, ↓reduceIte, i42, c42, a1_h.1, w2]
-- f43 impl.GoodRels$1
def X43_1 (a1 : Rel) (a0 : Rel) (o : Bool) : Ex × Fr × St :=
  (.normal, frOf 16 (upd anyF 3 (.bool o)), [])
theorem e43_1 (a1 : Rel) (a0 : Rel) (o : Bool) (h : m43_1 a1 a0 = some o) : evCL T 0 k43_1 (frOf 16 (upd (upd anyF 1 (.tp .imm 3 [[.int .i64 a1.a, .int .i64 a1.b, .int .i64 a1.kind]] 0 0)) 2 (.ptr 0 0 0))) [some ⟨.box, 3, [[.int .i64 a0.a, .int .i64 a0.b, .int .i64 a0.kind]]⟩] = some (X43_1 a1 a0 o) := by
  unfold m43_1 at h
  try simp -implicitDefEqProofs only [go_sem, Nat.reduceLT, Nat.reduceAdd, Nat.reduceSub, Nat.reduceMul, Nat.reduceEqDiff, Nat.reduceBEq, Nat.reduceLeDiff, Int.reduceToNat, Int.reduceLT, Int.reduceLE, Int.reduceEq, reduceCtorEq, ↓reduceIte, X43_1, k43_1]
  cases b1 : (eqI a1.a a0.a : Bool)
  · replace h := br_f b1 h
    cases h
    simp -implicitDefEqProofs only [go_sem, Nat.reduceLT, Nat.reduceAdd, Nat.reduceSub, Nat.reduceMul, Nat.reduceEqDiff, Nat.reduceBEq, Nat.reduceLeDiff, Int.reduceToNat, Int.reduceLT, Int.reduceLE, Int.reduceEq, reduceCtorEq, ↓reduceIte, X43_1, k43_1, b1]
  · replace h := br_t b1 h
    cases h
    simp -implicitDefEqProofs only [go_sem, Nat.reduceLT, Nat.reduceAdd, Nat.reduceSub, Nat.reduceMul, Nat.reduceEqDiff, Nat.reduceBEq, Nat.reduceLeDiff, Int.reduceToNat, Int.reduceLT, Int.reduceLE, Int.reduceEq, reduceCtorEq, ↓reduceIte, X43_1, k43_1, b1]
theorem call43 (args : List AV) (S : St) : evCall T (evFL T) 43 args S = lendC (evFL T 43) S (lendAll S [[0, 0, 0], [0]] args) := evCall0 fn43 rfl rfl args S
theorem callz43 (args : List AV) (S : St) : evCallFz T (evFL T) 43 args S = lendZ (evFL T 43) S [[0]] (lendAll S [[0, 0, 0], [0]] args) := evCallFz0 fn43 rfl rfl args S
attribute [go_sem] call43 callz43
theorem e43 (a0 : Rel) (a1 : Rel) (r : Bool) (h : m43 a0 a1 = some r) : evFL T 43 [.agg [.int .i64 a0.a, .int .i64 a0.b, .int .i64 a0.kind], .tp .imm 3 [[.int .i64 a1.a, .int .i64 a1.b, .int .i64 a1.kind]] 0 0] [] = some (.bool r, []) := by
  unfold m43 at h
  rw [evFL_at fn43 (Nat.le_of_ble_eq_true rfl) rfl (.inr rfl)]
  obtain ⟨v4, q2, h⟩ := bnd_some h
  have w3 := e43_1 a1 a0 v4 q2
  simp only [X43_1] at w3
  try simp -implicitDefEqProofs only [go_sem, Nat.reduceLT, Nat.reduceAdd, Nat.reduceSub, Nat.reduceMul, Nat.reduceEqDiff, Nat.reduceBEq, Nat.reduceLeDiff, Int.reduceToNat, Int.reduceLT, Int.reduceLE, Int.reduceEq, reduceCtorEq, ↓reduceIte] at w3
  cases h
  simp -implicitDefEqProofs only [go_sem, Nat.reduceLT, Nat.reduceAdd, Nat.reduceSub, Nat.reduceMul, Nat.reduceEqDiff, Nat.reduceBEq, Nat.reduceLeDiff, Int.reduceToNat, Int.reduceLT, Int.reduceLE, Int.reduceEq, reduceCtorEq, ↓reduceIte, i43, c43, w3]
-- f14 impl.GoodRels
def X14_1 (a0 : Int) (a1 : (List Rel)) (o : Bool) : Ex × Fr × St :=
  (.normal, frOf 50 (upd (upd (upd anyF 0 (.int .i64 a0)) 1 (.ts .imm 3 (a1.map encRel))) 14 (.bool o)), [])
theorem e14_1 (a0 : Int) (a1 : (List Rel)) (o : Bool) (h : m14_1 a0 a1 = some o) : evCL T 0 k14_1 (frOf 50 (upd (upd anyF 0 (.int .i64 a0)) 1 (.ts .imm 3 (a1.map encRel)))) [] = some (X14_1 a0 a1 o) := by
  unfold m14_1 at h
  obtain ⟨r3, q1, h⟩ := bnd_some h
  have w2 := e41 a0 1 5 r3 q1
  try simp -implicitDefEqProofs only [go_sem, Nat.reduceLT, Nat.reduceAdd, Nat.reduceSub, Nat.reduceMul, Nat.reduceEqDiff, Nat.reduceBEq, Nat.reduceLeDiff, Int.reduceToNat, Int.reduceLT, Int.reduceLE, Int.reduceEq, reduceCtorEq, ↓reduceIte] at w2
  try simp -implicitDefEqProofs only [go_sem, Nat.reduceLT, Nat.reduceAdd, Nat.reduceSub, Nat.reduceMul, Nat.reduceEqDiff, Nat.reduceBEq, Nat.reduceLeDiff, Int.reduceToNat, Int.reduceLT, Int.reduceLE, Int.reduceEq, reduceCtorEq, ↓reduceIte, X14_1, k14_1, w2]
  cases b4 : (r3 : Bool)
  · replace h := br_f b4 h
    cases h
    simp -implicitDefEqProofs only [go_sem, Nat.reduceLT, Nat.reduceAdd, Nat.reduceSub, Nat.reduceMul, Nat.reduceEqDiff, Nat.reduceBEq, Nat.reduceLeDiff, Int.reduceToNat, Int.reduceLT, Int.reduceLE, Int.reduceEq, reduceCtorEq, ↓reduceIte, X14_1, k14_1, w2, b4]
  · replace h := br_t b4 h
    cases h
    simp -implicitDefEqProofs only [go_sem, Nat.reduceLT, Nat.reduceAdd, Nat.reduceSub, Nat.reduceMul, Nat.reduceEqDiff, Nat.reduceBEq, Nat.reduceLeDiff, Int.reduceToNat, Int.reduceLT, Int.reduceLE, Int.reduceEq, reduceCtorEq, ↓reduceIte, X14_1, k14_1, w2, b4]
def X14_4 (a0 : Int) (a1 : (List Rel)) (s36 : Int) (p9 : Int) (x38 : Rel) (o : Bool) : Ex × Fr × St :=
  (.normal, frOf 50 (upd (upd (upd (upd (upd (upd anyF 0 (.int .i64 a0)) 1 (.ts .imm 3 (a1.map encRel))) 15 (.ts .imm 3 (a1.map encRel))) 16 (.int .i64 p9)) 17 (.int .i64 s36)) 48 (.bool o)), [])
theorem e14_4 (a0 : Int) (a1 : (List Rel)) (s36 : Int) (p9 : Int) (x38 : Rel) (o : Bool) (h : m14_4 a0 a1 s36 x38 = some o) : evCL T 0 k14_4 (frOf 50 (upd (upd (upd (upd (upd (upd (upd anyF 0 (.int .i64 a0)) 1 (.ts .imm 3 (a1.map encRel))) 5 (.int .i64 s36)) 6 (.ptr 0 0 0)) 15 (.ts .imm 3 (a1.map encRel))) 16 (.int .i64 p9)) 17 (.int .i64 s36))) [some ⟨.box, 3, [[.int .i64 x38.a, .int .i64 x38.b, .int .i64 x38.kind]]⟩] = some (X14_4 a0 a1 s36 p9 x38 o) := by
  unfold m14_4 at h
  obtain ⟨r45, q43, h⟩ := bnd_some h
  have w44 := e41 x38.b 1 a0 r45 q43
  try simp -implicitDefEqProofs only [go_sem, Nat.reduceLT, Nat.reduceAdd, Nat.reduceSub, Nat.reduceMul, Nat.reduceEqDiff, Nat.reduceBEq, Nat.reduceLeDiff, Int.reduceToNat, Int.reduceLT, Int.reduceLE, Int.reduceEq, reduceCtorEq, ↓reduceIte] at w44
  try simp -implicitDefEqProofs only [go_sem, Nat.reduceLT, Nat.reduceAdd, Nat.reduceSub, Nat.reduceMul, Nat.reduceEqDiff, Nat.reduceBEq, Nat.reduceLeDiff, Int.reduceToNat, Int.reduceLT, Int.reduceLE, Int.reduceEq, reduceCtorEq, ↓reduceIte, X14_4, k14_4, w44]
  cases b46 : (r45 : Bool)
  · replace h := br_f b46 h
    cases h
    simp -implicitDefEqProofs only [go_sem, Nat.reduceLT, Nat.reduceAdd, Nat.reduceSub, Nat.reduceMul, Nat.reduceEqDiff, Nat.reduceBEq, Nat.reduceLeDiff, Int.reduceToNat, Int.reduceLT, Int.reduceLE, Int.reduceEq, reduceCtorEq, ↓reduceIte, X14_4, k14_4, w44, b46]
  · replace h := br_t b46 h
    obtain ⟨r49, q47, h⟩ := bnd_some h
    have w48 := e41 x38.a 0 (wsub .i64 x38.b 1) r49 q47
    try simp -implicitDefEqProofs only [go_sem, Nat.reduceLT, Nat.reduceAdd, Nat.reduceSub, Nat.reduceMul, Nat.reduceEqDiff, Nat.reduceBEq, Nat.reduceLeDiff, Int.reduceToNat, Int.reduceLT, Int.reduceLE, Int.reduceEq, reduceCtorEq, ↓reduceIte] at w48
    try simp -implicitDefEqProofs only [go_sem, Nat.reduceLT, Nat.reduceAdd, Nat.reduceSub, Nat.reduceMul, Nat.reduceEqDiff, Nat.reduceBEq, Nat.reduceLeDiff, Int.reduceToNat, Int.reduceLT, Int.reduceLE, Int.reduceEq, reduceCtorEq, ↓reduceIte, X14_4, k14_4, w44, b46, w48]
    cases b50 : (r49 : Bool)
    · replace h := br_f b50 h
      cases h
      simp -implicitDefEqProofs only [go_sem, Nat.reduceLT, Nat.reduceAdd, Nat.reduceSub, Nat.reduceMul, Nat.reduceEqDiff, Nat.reduceBEq, Nat.reduceLeDiff, Int.reduceToNat, Int.reduceLT, Int.reduceLE, Int.reduceEq, reduceCtorEq, ↓reduceIte, X14_4, k14_4, w44, b46, w48, b50]
    · replace h := br_t b50 h
      obtain ⟨r53, q51, h⟩ := bnd_some h
      have w52 := e41 x38.kind 1 3 r53 q51
      try simp -implicitDefEqProofs only [go_sem, Nat.reduceLT, Nat.reduceAdd, Nat.reduceSub, Nat.reduceMul, Nat.reduceEqDiff, Nat.reduceBEq, Nat.reduceLeDiff, Int.reduceToNat, Int.reduceLT, Int.reduceLE, Int.reduceEq, reduceCtorEq, ↓reduceIte] at w52
      try simp -implicitDefEqProofs only [go_sem, Nat.reduceLT, Nat.reduceAdd, Nat.reduceSub, Nat.reduceMul, Nat.reduceEqDiff, Nat.reduceBEq, Nat.reduceLeDiff, Int.reduceToNat, Int.reduceLT, Int.reduceLE, Int.reduceEq, reduceCtorEq, ↓reduceIte, X14_4, k14_4, w44, b46, w48, b50, w52]
      cases b54 : (r53 : Bool)
      · replace h := br_f b54 h
        cases h
        simp -implicitDefEqProofs only [go_sem, Nat.reduceLT, Nat.reduceAdd, Nat.reduceSub, Nat.reduceMul, Nat.reduceEqDiff, Nat.reduceBEq, Nat.reduceLeDiff, Int.reduceToNat, Int.reduceLT, Int.reduceLE, Int.reduceEq, reduceCtorEq, ↓reduceIte, X14_4, k14_4, w44, b46, w48, b50, w52, b54]
      · replace h := br_t b54 h
        obtain ⟨g55, h⟩ := ck_some h
        try simp -implicitDefEqProofs only [go_sem, Nat.reduceLT, Nat.reduceAdd, Nat.reduceSub, Nat.reduceMul, Nat.reduceEqDiff, Nat.reduceBEq, Nat.reduceLeDiff, Int.reduceToNat, Int.reduceLT, Int.reduceLE, Int.reduceEq, reduceCtorEq, ↓reduceIte] at g55
        obtain ⟨r58, q56, h⟩ := bnd_some h
        have w57 := e42 (a1.take s36.toNat) (fun y0 => m43 y0 x38) 43 [.tp .imm 3 [[.int .i64 x38.a, .int .i64 x38.b, .int .i64 x38.kind]] 0 0] ⟨⟨fun S => by simp -implicitDefEqProofs only [go_sem, Nat.reduceLT, Nat.reduceAdd, Nat.reduceSub, Nat.reduceMul, Nat.reduceEqDiff, Nat.reduceBEq, Nat.reduceLeDiff, Int.reduceToNat, Int.reduceLT, Int.reduceLE, Int.reduceEq, reduceCtorEq, ↓reduceIte], fun _ _ _ _ _ _ => by simp -implicitDefEqProofs only [go_sem, Nat.reduceLT, Nat.reduceAdd, Nat.reduceSub, Nat.reduceMul, Nat.reduceEqDiff, Nat.reduceBEq, Nat.reduceLeDiff, Int.reduceToNat, Int.reduceLT, Int.reduceLE, Int.reduceEq, reduceCtorEq, ↓reduceIte]⟩, fun y0 r h => ⟨fun S => by simp -implicitDefEqProofs only [go_sem, Nat.reduceLT, Nat.reduceAdd, Nat.reduceSub, Nat.reduceMul, Nat.reduceEqDiff, Nat.reduceBEq, Nat.reduceLeDiff, Int.reduceToNat, Int.reduceLT, Int.reduceLE, Int.reduceEq, reduceCtorEq, ↓reduceIte, e43 y0 x38 r h], fun S => by simp -implicitDefEqProofs only [go_sem, Nat.reduceLT, Nat.reduceAdd, Nat.reduceSub, Nat.reduceMul, Nat.reduceEqDiff, Nat.reduceBEq, Nat.reduceLeDiff, Int.reduceToNat, Int.reduceLT, Int.reduceLE, Int.reduceEq, reduceCtorEq, ↓reduceIte, e43 y0 x38 r h]⟩⟩ r58 q56
        try simp -implicitDefEqProofs only [go_sem, Nat.reduceLT, Nat.reduceAdd, Nat.reduceSub, Nat.reduceMul, Nat.reduceEqDiff, Nat.reduceBEq, Nat.reduceLeDiff, Int.reduceToNat, Int.reduceLT, Int.reduceLE, Int.reduceEq, reduceCtorEq, ↓reduceIte] at w57
        cases h
        simp -implicitDefEqProofs only [go_sem, Nat.reduceLT, Nat.reduceAdd, Nat.reduceSub, Nat.reduceMul, Nat.reduceEqDiff, Nat.reduceBEq, Nat.reduceLeDiff, Int.reduceToNat, Int.reduceLT, Int.reduceLE, Int.reduceEq, reduceCtorEq, ↓reduceIte, X14_4, k14_4, w44, b46, w48, b50, w52, b54, g55, w57]
def X14_2 (a0 : Int) (a1 : (List Rel)) (p9 : Int) (o : (Unit ⊕ Unit)) : Ex × Fr × St :=
  match o with
  | .inl o => (.exit 0, frOf 50 (anyF), [])
  | .inr o => (.ret, frOf 50 (upd anyF 4 (.bool false)), [])
def E14_2 (a0 : Int) (a1 : (List Rel)) (p9 : Int) (s : Int) : Fr × St := (frOf 50 (upd (upd (upd (upd (upd anyF 0 (.int .i64 a0)) 1 (.ts .imm 3 (a1.map encRel))) 15 (.ts .imm 3 (a1.map encRel))) 16 (.int .i64 p9)) 17 (.int .i64 s)), [])
theorem b14_2 (a0 : Int) (a1 : (List Rel)) (p9 : Int) (s : Int) (o : Ctl Int (Unit ⊕ Unit)) (h : m14_2b a0 a1 p9 s = some o) : evCL T 0 k14_2b (E14_2 a0 a1 p9 s).1 (E14_2 a0 a1 p9 s).2 = some (ctlX (E14_2 a0 a1 p9) (X14_2 a0 a1 p9) o) := by
  unfold m14_2b at h
  revert h
  generalize s = s36
  intro h
  try simp -implicitDefEqProofs only [go_sem, Nat.reduceLT, Nat.reduceAdd, Nat.reduceSub, Nat.reduceMul, Nat.reduceEqDiff, Nat.reduceBEq, Nat.reduceLeDiff, Int.reduceToNat, Int.reduceLT, Int.reduceLE, Int.reduceEq, reduceCtorEq, ↓reduceIte, E14_2, X14_2, k14_2b]
  cases b37 : (ltI s36 p9 : Bool)
  · replace h := br_f b37 h
    cases h
    simp -implicitDefEqProofs only [go_sem, Nat.reduceLT, Nat.reduceAdd, Nat.reduceSub, Nat.reduceMul, Nat.reduceEqDiff, Nat.reduceBEq, Nat.reduceLeDiff, Int.reduceToNat, Int.reduceLT, Int.reduceLE, Int.reduceEq, reduceCtorEq, ↓reduceIte, E14_2, X14_2, k14_2b, b37]
  · replace h := br_t b37 h
    obtain ⟨x38, q39, h⟩ := bnd_some h
    obtain ⟨g40, g41, g42⟩ := idx_row encRel q39
    try simp -implicitDefEqProofs only [go_sem, Nat.reduceLT, Nat.reduceAdd, Nat.reduceSub, Nat.reduceMul, Nat.reduceEqDiff, Nat.reduceBEq, Nat.reduceLeDiff, Int.reduceToNat, Int.reduceLT, Int.reduceLE, Int.reduceEq, reduceCtorEq, ↓reduceIte] at g41
    try simp -implicitDefEqProofs only [go_sem, Nat.reduceLT, Nat.reduceAdd, Nat.reduceSub, Nat.reduceMul, Nat.reduceEqDiff, Nat.reduceBEq, Nat.reduceLeDiff, Int.reduceToNat, Int.reduceLT, Int.reduceLE, Int.reduceEq, reduceCtorEq, ↓reduceIte] at g42
    obtain ⟨v61, q59, h⟩ := bnd_some h
    have w60 := e14_4 a0 a1 s36 p9 x38 v61 q59
    simp only [X14_4] at w60
    try simp -implicitDefEqProofs only [go_sem, Nat.reduceLT, Nat.reduceAdd, Nat.reduceSub, Nat.reduceMul, Nat.reduceEqDiff, Nat.reduceBEq, Nat.reduceLeDiff, Int.reduceToNat, Int.reduceLT, Int.reduceLE, Int.reduceEq, reduceCtorEq, ↓reduceIte] at w60
    try simp -implicitDefEqProofs only [go_sem, Nat.reduceLT, Nat.reduceAdd, Nat.reduceSub, Nat.reduceMul, Nat.reduceEqDiff, Nat.reduceBEq, Nat.reduceLeDiff, Int.reduceToNat, Int.reduceLT, Int.reduceLE, Int.reduceEq, reduceCtorEq, ↓reduceIte, E14_2, X14_2, k14_2b, b37, g40, g41, g42, w60]
    cases b62 : (v61 : Bool)
    · replace h := br_f b62 h
      cases h
      simp -implicitDefEqProofs only [go_sem, Nat.reduceLT, Nat.reduceAdd, Nat.reduceSub, Nat.reduceMul, Nat.reduceEqDiff, Nat.reduceBEq, Nat.reduceLeDiff, Int.reduceToNat, Int.reduceLT, Int.reduceLE, Int.reduceEq, reduceCtorEq, ↓reduceIte, E14_2, X14_2, k14_2b, b37, g40, g41, g42, w60, b62]
    · replace h := br_t b62 h
      cases h
      simp -implicitDefEqProofs only [go_sem, Nat.reduceLT, Nat.reduceAdd, Nat.reduceSub, Nat.reduceMul, Nat.reduceEqDiff, Nat.reduceBEq, Nat.reduceLeDiff, Int.reduceToNat, Int.reduceLT, Int.reduceLE, Int.reduceEq, reduceCtorEq, ↓reduceIte, E14_2, X14_2, k14_2b, b37, g40, g41, g42, w60, b62]
theorem e14_2 (a0 : Int) (a1 : (List Rel)) (p9 : Int) (s : Int) (o : (Unit ⊕ Unit)) (h : loopP (m14_2b a0 a1 p9) s = some o) : evCL T 0 (.loop k14_2b) (E14_2 a0 a1 p9 s).1 (E14_2 a0 a1 p9 s).2 = some (X14_2 a0 a1 p9 o) :=
  loop_walk (E := E14_2 a0 a1 p9) (X := X14_2 a0 a1 p9) (by intro b; rcases b with b | b <;> (simp only [X14_2]; nofun)) (b14_2 a0 a1 p9) s o h
theorem call14 (args : List AV) (S : St) : evCall T (evFL T) 14 args S = lendC (evFL T 14) S (lendAll S [[0], [3]] args) := evCall0 fn14 rfl rfl args S
theorem callz14 (args : List AV) (S : St) : evCallFz T (evFL T) 14 args S = lendZ (evFL T 14) S [[0]] (lendAll S [[0], [3]] args) := evCallFz0 fn14 rfl rfl args S
attribute [go_sem] call14 callz14
theorem e14 (a0 : Int) (a1 : (List Rel)) (r : Bool) (h : m14 a0 a1 = some r) : evFL T 14 [.int .i64 a0, .ts .imm 3 (a1.map encRel)] [] = some (.bool r, []) := by
  unfold m14 at h
  rw [evFL_at fn14 (Nat.le_of_ble_eq_true rfl) rfl (.inr rfl)]
  obtain ⟨v7, q5, h⟩ := bnd_some h
  have w6 := e14_1 a0 a1 v7 q5
  simp only [X14_1] at w6
  try simp -implicitDefEqProofs only [go_sem, Nat.reduceLT, Nat.reduceAdd, Nat.reduceSub, Nat.reduceMul, Nat.reduceEqDiff, Nat.reduceBEq, Nat.reduceLeDiff, Int.reduceToNat, Int.reduceLT, Int.reduceLE, Int.reduceEq, reduceCtorEq, ↓reduceIte] at w6
  try simp -implicitDefEqProofs only [go_sem, Nat.reduceLT, Nat.reduceAdd, Nat.reduceSub, Nat.reduceMul, Nat.reduceEqDiff, Nat.reduceBEq, Nat.reduceLeDiff, Int.reduceToNat, Int.reduceLT, Int.reduceLE, Int.reduceEq, reduceCtorEq, ↓reduceIte, i14, c14, w6]
  cases b8 : (v7 : Bool)
  · replace h := br_f b8 h
    try simp -implicitDefEqProofs only [go_sem, Nat.reduceLT, Nat.reduceAdd, Nat.reduceSub, Nat.reduceMul, Nat.reduceEqDiff, Nat.reduceBEq, Nat.reduceLeDiff, Int.reduceToNat, Int.reduceLT, Int.reduceLE, Int.reduceEq, reduceCtorEq, ↓reduceIte, i14, c14, w6, b8]
    obtain ⟨o, q63, h⟩ := bnd_some h
    rcases o with ⟨⟩ | ⟨⟩
    · replace h := selS_l h
      have w64 := e14_2 a0 a1 (↑a1.length : Int) 0 (.inl ()) q63
      simp only [E14_2, X14_2] at w64
      try simp -implicitDefEqProofs only [go_sem, Nat.reduceLT, Nat.reduceAdd, Nat.reduceSub, Nat.reduceMul, Nat.reduceEqDiff, Nat.reduceBEq, Nat.reduceLeDiff, Int.reduceToNat, Int.reduceLT, Int.reduceLE, Int.reduceEq, reduceCtorEq, ↓reduceIte] at w64
      cases h
      simp -implicitDefEqProofs only [go_sem, Nat.reduceLT, Nat.reduceAdd, Nat.reduceSub, Nat.reduceMul, Nat.reduceEqDiff, Nat.reduceBEq, Nat.reduceLeDiff, Int.reduceToNat, Int.reduceLT, Int.reduceLE, Int.reduceEq, reduceCtorEq, ↓reduceIte, i14, c14, w6, b8, w64]
    · replace h := selS_r h
      have w64 := e14_2 a0 a1 (↑a1.length : Int) 0 (.inr ()) q63
      simp only [E14_2, X14_2] at w64
      try simp -implicitDefEqProofs only [go_sem, Nat.reduceLT, Nat.reduceAdd, Nat.reduceSub, Nat.reduceMul, Nat.reduceEqDiff, Nat.reduceBEq, Nat.reduceLeDiff, Int.reduceToNat, Int.reduceLT, Int.reduceLE, Int.reduceEq, reduceCtorEq, ↓reduceIte] at w64
      cases h
      simp -implicitDefEqProofs only [go_sem, Nat.reduceLT, Nat.reduceAdd, Nat.reduceSub, Nat.reduceMul, Nat.reduceEqDiff, Nat.reduceBEq, Nat.reduceLeDiff, Int.reduceToNat, Int.reduceLT, Int.reduceLE, Int.reduceEq, reduceCtorEq, ↓reduceIte, i14, c14, w6, b8, w64]
  · replace h := br_t b8 h
    cases h
    simp -implicitDefEqProofs only [go_sem, Nat.reduceLT, Nat.reduceAdd, Nat.reduceSub, Nat.reduceMul, Nat.reduceEqDiff, Nat.reduceBEq, Nat.reduceLeDiff, Int.reduceToNat, Int.reduceLT, Int.reduceLE, Int.reduceEq, reduceCtorEq, ↓reduceIte, i14, c14, w6, b8]
-- f72 slices.Index[[]int,int]
def X72_1 (a0 : (List Int)) (a1 : Int) (p1 : Int) (o : (Unit ⊕ Int)) : Ex × Fr × St :=
  match o with
  | .inl o => (.exit 0, frOf 19 (anyF), [])
  | .inr o => (.ret, frOf 19 (upd anyF 4 (.int .i64 o)), [])
def E72_1 (a0 : (List Int)) (a1 : Int) (p1 : Int) (s : Int) : Fr × St := (frOf 19 (upd (upd (upd (upd anyF 0 (.ts .imm 1 (a0.map encInt))) 1 (.int .i64 a1)) 7 (.int .i64 p1)) 8 (.int .i64 s)), [])
theorem b72_1 (a0 : (List Int)) (a1 : Int) (p1 : Int) (s : Int) (o : Ctl Int (Unit ⊕ Int)) (h : m72_1b a0 a1 p1 s = some o) : evCL T 0 k72_1b (E72_1 a0 a1 p1 s).1 (E72_1 a0 a1 p1 s).2 = some (ctlX (E72_1 a0 a1 p1) (X72_1 a0 a1 p1) o) := by
  unfold m72_1b at h
  revert h
  generalize s = s9
  intro h
  try simp -implicitDefEqProofs only [go_sem, Nat.reduceLT, Nat.reduceAdd, Nat.reduceSub, Nat.reduceMul, Nat.reduceEqDiff, Nat.reduceBEq, Nat.reduceLeDiff, Int.reduceToNat, Int.reduceLT, Int.reduceLE, Int.reduceEq, reduceCtorEq, ↓reduceIte, E72_1, X72_1, k72_1b]
  cases b10 : (ltI s9 p1 : Bool)
  · replace h := br_f b10 h
    cases h
    simp -implicitDefEqProofs only [go_sem, Nat.reduceLT, Nat.reduceAdd, Nat.reduceSub, Nat.reduceMul, Nat.reduceEqDiff, Nat.reduceBEq, Nat.reduceLeDiff, Int.reduceToNat, Int.reduceLT, Int.reduceLE, Int.reduceEq, reduceCtorEq, ↓reduceIte, E72_1, X72_1, k72_1b, b10]
  · replace h := br_t b10 h
    obtain ⟨x11, q12, h⟩ := bnd_some h
    obtain ⟨g13, g14, g15⟩ := idx_row encInt q12
    try simp -implicitDefEqProofs only [go_sem, Nat.reduceLT, Nat.reduceAdd, Nat.reduceSub, Nat.reduceMul, Nat.reduceEqDiff, Nat.reduceBEq, Nat.reduceLeDiff, Int.reduceToNat, Int.reduceLT, Int.reduceLE, Int.reduceEq, reduceCtorEq, ↓reduceIte] at g14
    try simp -implicitDefEqProofs only [go_sem, Nat.reduceLT, Nat.reduceAdd, Nat.reduceSub, Nat.reduceMul, Nat.reduceEqDiff, Nat.reduceBEq, Nat.reduceLeDiff, Int.reduceToNat, Int.reduceLT, Int.reduceLE, Int.reduceEq, reduceCtorEq, ↓reduceIte] at g15
    try simp -implicitDefEqProofs only [go_sem, Nat.reduceLT, Nat.reduceAdd, Nat.reduceSub, Nat.reduceMul, Nat.reduceEqDiff, Nat.reduceBEq, Nat.reduceLeDiff, Int.reduceToNat, Int.reduceLT, Int.reduceLE, Int.reduceEq, reduceCtorEq, ↓reduceIte, E72_1, X72_1, k72_1b, b10, g13, g14, g15]
    cases b16 : (eqI a1 x11 : Bool)
    · replace h := br_f b16 h
      cases h
      simp -implicitDefEqProofs only [go_sem, Nat.reduceLT, Nat.reduceAdd, Nat.reduceSub, Nat.reduceMul, Nat.reduceEqDiff, Nat.reduceBEq, Nat.reduceLeDiff, Int.reduceToNat, Int.reduceLT, Int.reduceLE, Int.reduceEq, reduceCtorEq, ↓reduceIte, E72_1, X72_1, k72_1b, b10, g13, g14, g15, b16]
    · replace h := br_t b16 h
      cases h
      simp -implicitDefEqProofs only [go_sem, Nat.reduceLT, Nat.reduceAdd, Nat.reduceSub, Nat.reduceMul, Nat.reduceEqDiff, Nat.reduceBEq, Nat.reduceLeDiff, Int.reduceToNat, Int.reduceLT, Int.reduceLE, Int.reduceEq, reduceCtorEq, ↓reduceIte, E72_1, X72_1, k72_1b, b10, g13, g14, g15, b16]
theorem e72_1 (a0 : (List Int)) (a1 : Int) (p1 : Int) (s : Int) (o : (Unit ⊕ Int)) (h : loopP (m72_1b a0 a1 p1) s = some o) : evCL T 0 (.loop k72_1b) (E72_1 a0 a1 p1 s).1 (E72_1 a0 a1 p1 s).2 = some (X72_1 a0 a1 p1 o) :=
  loop_walk (E := E72_1 a0 a1 p1) (X := X72_1 a0 a1 p1) (by intro b; rcases b with b | b <;> (simp only [X72_1]; nofun)) (b72_1 a0 a1 p1) s o h
theorem call72 (args : List AV) (S : St) : evCall T (evFL T) 72 args S = lendC (evFL T 72) S (lendAll S [[1], [0]] args) := evCall0 fn72 rfl rfl args S
theorem callz72 (args : List AV) (S : St) : evCallFz T (evFL T) 72 args S = lendZ (evFL T 72) S [[0]] (lendAll S [[1], [0]] args) := evCallFz0 fn72 rfl rfl args S
attribute [go_sem] call72 callz72
theorem e72 (a0 : (List Int)) (a1 : Int) (r : Int) (h : m72 a0 a1 = some r) : evFL T 72 [.ts .imm 1 (a0.map encInt), .int .i64 a1] [] = some (.int .i64 r, []) := by
  unfold m72 at h
  rw [evFL_at fn72 (Nat.le_of_ble_eq_true rfl) rfl (.inr rfl)]
  try simp -implicitDefEqProofs only [go_sem, Nat.reduceLT, Nat.reduceAdd, Nat.reduceSub, Nat.reduceMul, Nat.reduceEqDiff, Nat.reduceBEq, Nat.reduceLeDiff, Int.reduceToNat, Int.reduceLT, Int.reduceLE, Int.reduceEq, reduceCtorEq, ↓reduceIte, i72, c72]
  obtain ⟨o, q17, h⟩ := bnd_some h
  rcases o with ⟨⟩ | v19
  · replace h := selS_l h
    have w18 := e72_1 a0 a1 (↑a0.length : Int) 0 (.inl ()) q17
    simp only [E72_1, X72_1] at w18
    try simp -implicitDefEqProofs only [go_sem, Nat.reduceLT, Nat.reduceAdd, Nat.reduceSub, Nat.reduceMul, Nat.reduceEqDiff, Nat.reduceBEq, Nat.reduceLeDiff, Int.reduceToNat, Int.reduceLT, Int.reduceLE, Int.reduceEq, reduceCtorEq, ↓reduceIte] at w18
    cases h
    simp -implicitDefEqProofs only [go_sem, Nat.reduceLT, Nat.reduceAdd, Nat.reduceSub, Nat.reduceMul, Nat.reduceEqDiff, Nat.reduceBEq, Nat.reduceLeDiff, Int.reduceToNat, Int.reduceLT, Int.reduceLE, Int.reduceEq, reduceCtorEq, ↓reduceIte, i72, c72, w18]
  · replace h := selS_r h
    have w18 := e72_1 a0 a1 (↑a0.length : Int) 0 (.inr v19) q17
    simp only [E72_1, X72_1] at w18
    try simp -implicitDefEqProofs only [go_sem, Nat.reduceLT, Nat.reduceAdd, Nat.reduceSub, Nat.reduceMul, Nat.reduceEqDiff, Nat.reduceBEq, Nat.reduceLeDiff, Int.reduceToNat, Int.reduceLT, Int.reduceLE, Int.reduceEq, reduceCtorEq, ↓reduceIte] at w18
    cases h
    simp -implicitDefEqProofs only [go_sem, Nat.reduceLT, Nat.reduceAdd, Nat.reduceSub, Nat.reduceMul, Nat.reduceEqDiff, Nat.reduceBEq, Nat.reduceLeDiff, Int.reduceToNat, Int.reduceLT, Int.reduceLE, Int.reduceEq, reduceCtorEq, ↓reduceIte, i72, c72, w18]
-- f55 slices.Contains[[]int,int]
theorem call55 (args : List AV) (S : St) : evCall T (evFL T) 55 args S = lendC (evFL T 55) S (lendAll S [[1], [0]] args) := evCall0 fn55 rfl rfl args S
theorem callz55 (args : List AV) (S : St) : evCallFz T (evFL T) 55 args S = lendZ (evFL T 55) S [[0]] (lendAll S [[1], [0]] args) := evCallFz0 fn55 rfl rfl args S
attribute [go_sem] call55 callz55
theorem e55 (a0 : (List Int)) (a1 : Int) (r : Bool) (h : m55 a0 a1 = some r) : evFL T 55 [.ts .imm 1 (a0.map encInt), .int .i64 a1] [] = some (.bool r, []) := by
  unfold m55 at h
  rw [evFL_at fn55 (Nat.le_of_ble_eq_true rfl) rfl (.inr rfl)]
  obtain ⟨r3, q1, h⟩ := bnd_some h
  have w2 := e72 a0 a1 r3 q1
  try simp -implicitDefEqProofs only [go_sem, Nat.reduceLT, Nat.reduceAdd, Nat.reduceSub, Nat.reduceMul, Nat.reduceEqDiff, Nat.reduceBEq, Nat.reduceLeDiff, Int.reduceToNat, Int.reduceLT, Int.reduceLE, Int.reduceEq, reduceCtorEq, ↓reduceIte] at w2
  cases h
  simp -implicitDefEqProofs only [go_sem, Nat.reduceLT, Nat.reduceAdd, Nat.reduceSub, Nat.reduceMul, Nat.reduceEqDiff, Nat.reduceBEq, Nat.reduceLeDiff, Int.reduceToNat, Int.reduceLT, Int.reduceLE, Int.reduceEq, reduceCtorEq, ↓reduceIte, i55, c55, w2]
-- f46 impl.kindTo
def X46_4 (a1 : Int) (a2 : Int) (a0 : (List Rel)) (p1 : Int) (s18 : Int) (x20 : Rel) (o : Bool) : Ex × Fr × St :=
  (.normal, frOf 41 (upd (upd (upd (upd (upd (upd (upd anyF 1 (.int .i64 a1)) 2 (.int .i64 a2)) 8 (.ptr 0 0 0)) 9 (.ts .imm 3 (a0.map encRel))) 10 (.int .i64 p1)) 11 (.int .i64 s18)) 24 (.bool o)), [some ⟨.box, 3, [[.int .i64 x20.a, .int .i64 x20.b, .int .i64 x20.kind]]⟩])
theorem e46_4 (a1 : Int) (a2 : Int) (a0 : (List Rel)) (p1 : Int) (s18 : Int) (x20 : Rel) (o : Bool) (h : m46_4 a1 a2 x20 = some o) : evCL T 0 k46_4 (frOf 41 (upd (upd (upd (upd (upd (upd anyF 1 (.int .i64 a1)) 2 (.int .i64 a2)) 8 (.ptr 0 0 0)) 9 (.ts .imm 3 (a0.map encRel))) 10 (.int .i64 p1)) 11 (.int .i64 s18))) [some ⟨.box, 3, [[.int .i64 x20.a, .int .i64 x20.b, .int .i64 x20.kind]]⟩] = some (X46_4 a1 a2 a0 p1 s18 x20 o) := by
  unfold m46_4 at h
  try simp -implicitDefEqProofs only [go_sem, Nat.reduceLT, Nat.reduceAdd, Nat.reduceSub, Nat.reduceMul, Nat.reduceEqDiff, Nat.reduceBEq, Nat.reduceLeDiff, Int.reduceToNat, Int.reduceLT, Int.reduceLE, Int.reduceEq, reduceCtorEq, ↓reduceIte, X46_4, k46_4]
  cases b25 : (eqI x20.a a1 : Bool)
  · replace h := br_f b25 h
    cases h
    simp -implicitDefEqProofs only [go_sem, Nat.reduceLT, Nat.reduceAdd, Nat.reduceSub, Nat.reduceMul, Nat.reduceEqDiff, Nat.reduceBEq, Nat.reduceLeDiff, Int.reduceToNat, Int.reduceLT, Int.reduceLE, Int.reduceEq, reduceCtorEq, ↓reduceIte, X46_4, k46_4, b25]
  · replace h := br_t b25 h
    cases h
    simp -implicitDefEqProofs only [go_sem, Nat.reduceLT, Nat.reduceAdd, Nat.reduceSub, Nat.reduceMul, Nat.reduceEqDiff, Nat.reduceBEq, Nat.reduceLeDiff, Int.reduceToNat, Int.reduceLT, Int.reduceLE, Int.reduceEq, reduceCtorEq, ↓reduceIte, X46_4, k46_4, b25]
def X46_5 (a1 : Int) (a2 : Int) (a0 : (List Rel)) (p1 : Int) (s18 : Int) (x20 : Rel) (o : Bool) : Ex × Fr × St :=
  (.normal, frOf 41 (upd (upd (upd (upd (upd (upd (upd anyF 1 (.int .i64 a1)) 2 (.int .i64 a2)) 8 (.ptr 0 0 0)) 9 (.ts .imm 3 (a0.map encRel))) 10 (.int .i64 p1)) 11 (.int .i64 s18)) 36 (.bool o)), [some ⟨.box, 3, [[.int .i64 x20.a, .int .i64 x20.b, .int .i64 x20.kind]]⟩])
theorem e46_5 (a1 : Int) (a2 : Int) (a0 : (List Rel)) (p1 : Int) (s18 : Int) (x20 : Rel) (o : Bool) (h : m46_5 a1 a2 x20 = some o) : evCL T 0 k46_5 (frOf 41 (upd (upd (upd (upd (upd (upd anyF 1 (.int .i64 a1)) 2 (.int .i64 a2)) 8 (.ptr 0 0 0)) 9 (.ts .imm 3 (a0.map encRel))) 10 (.int .i64 p1)) 11 (.int .i64 s18))) [some ⟨.box, 3, [[.int .i64 x20.a, .int .i64 x20.b, .int .i64 x20.kind]]⟩] = some (X46_5 a1 a2 a0 p1 s18 x20 o) := by
  unfold m46_5 at h
  try simp -implicitDefEqProofs only [go_sem, Nat.reduceLT, Nat.reduceAdd, Nat.reduceSub, Nat.reduceMul, Nat.reduceEqDiff, Nat.reduceBEq, Nat.reduceLeDiff, Int.reduceToNat, Int.reduceLT, Int.reduceLE, Int.reduceEq, reduceCtorEq, ↓reduceIte, X46_5, k46_5]
  cases b30 : (eqI x20.a a2 : Bool)
  · replace h := br_f b30 h
    cases h
    simp -implicitDefEqProofs only [go_sem, Nat.reduceLT, Nat.reduceAdd, Nat.reduceSub, Nat.reduceMul, Nat.reduceEqDiff, Nat.reduceBEq, Nat.reduceLeDiff, Int.reduceToNat, Int.reduceLT, Int.reduceLE, Int.reduceEq, reduceCtorEq, ↓reduceIte, X46_5, k46_5, b30]
  · replace h := br_t b30 h
    cases h
    simp -implicitDefEqProofs only [go_sem, Nat.reduceLT, Nat.reduceAdd, Nat.reduceSub, Nat.reduceMul, Nat.reduceEqDiff, Nat.reduceBEq, Nat.reduceLeDiff, Int.reduceToNat, Int.reduceLT, Int.reduceLE, Int.reduceEq, reduceCtorEq, ↓reduceIte, X46_5, k46_5, b30]
def X46_1 (a1 : Int) (a2 : Int) (a0 : (List Rel)) (p1 : Int) (o : (Unit ⊕ Int)) : Ex × Fr × St :=
  match o with
  | .inl o => (.exit 0, frOf 41 (anyF), [])
  | .inr o => (.ret, frOf 41 (upd anyF 6 (.int .i64 o)), [])
def E46_1 (a1 : Int) (a2 : Int) (a0 : (List Rel)) (p1 : Int) (s : Int) : Fr × St := (frOf 41 (upd (upd (upd (upd (upd anyF 1 (.int .i64 a1)) 2 (.int .i64 a2)) 9 (.ts .imm 3 (a0.map encRel))) 10 (.int .i64 p1)) 11 (.int .i64 s)), [])
theorem b46_1 (a1 : Int) (a2 : Int) (a0 : (List Rel)) (p1 : Int) (s : Int) (o : Ctl Int (Unit ⊕ Int)) (h : m46_1b a1 a2 a0 p1 s = some o) : evCL T 0 k46_1b (E46_1 a1 a2 a0 p1 s).1 (E46_1 a1 a2 a0 p1 s).2 = some (ctlX (E46_1 a1 a2 a0 p1) (X46_1 a1 a2 a0 p1) o) := by
  unfold m46_1b at h
  revert h
  generalize s = s18
  intro h
  try simp -implicitDefEqProofs only [go_sem, Nat.reduceLT, Nat.reduceAdd, Nat.reduceSub, Nat.reduceMul, Nat.reduceEqDiff, Nat.reduceBEq, Nat.reduceLeDiff, Int.reduceToNat, Int.reduceLT, Int.reduceLE, Int.reduceEq, reduceCtorEq, ↓reduceIte, E46_1, X46_1, k46_1b]
  cases b19 : (ltI s18 p1 : Bool)
  · replace h := br_f b19 h
    cases h
    simp -implicitDefEqProofs only [go_sem, Nat.reduceLT, Nat.reduceAdd, Nat.reduceSub, Nat.reduceMul, Nat.reduceEqDiff, Nat.reduceBEq, Nat.reduceLeDiff, Int.reduceToNat, Int.reduceLT, Int.reduceLE, Int.reduceEq, reduceCtorEq, ↓reduceIte, E46_1, X46_1, k46_1b, b19]
  · replace h := br_t b19 h
    obtain ⟨x20, q21, h⟩ := bnd_some h
    obtain ⟨g22, g23, g24⟩ := idx_row encRel q21
    try simp -implicitDefEqProofs only [go_sem, Nat.reduceLT, Nat.reduceAdd, Nat.reduceSub, Nat.reduceMul, Nat.reduceEqDiff, Nat.reduceBEq, Nat.reduceLeDiff, Int.reduceToNat, Int.reduceLT, Int.reduceLE, Int.reduceEq, reduceCtorEq, ↓reduceIte] at g23
    try simp -implicitDefEqProofs only [go_sem, Nat.reduceLT, Nat.reduceAdd, Nat.reduceSub, Nat.reduceMul, Nat.reduceEqDiff, Nat.reduceBEq, Nat.reduceLeDiff, Int.reduceToNat, Int.reduceLT, Int.reduceLE, Int.reduceEq, reduceCtorEq, ↓reduceIte] at g24
    obtain ⟨v28, q26, h⟩ := bnd_some h
    have w27 := e46_4 a1 a2 a0 p1 s18 x20 v28 q26
    simp only [X46_4] at w27
    try simp -implicitDefEqProofs only [go_sem, Nat.reduceLT, Nat.reduceAdd, Nat.reduceSub, Nat.reduceMul, Nat.reduceEqDiff, Nat.reduceBEq, Nat.reduceLeDiff, Int.reduceToNat, Int.reduceLT, Int.reduceLE, Int.reduceEq, reduceCtorEq, ↓reduceIte] at w27
    try simp -implicitDefEqProofs only [go_sem, Nat.reduceLT, Nat.reduceAdd, Nat.reduceSub, Nat.reduceMul, Nat.reduceEqDiff, Nat.reduceBEq, Nat.reduceLeDiff, Int.reduceToNat, Int.reduceLT, Int.reduceLE, Int.reduceEq, reduceCtorEq, ↓reduceIte, E46_1, X46_1, k46_1b, b19, g22, g23, g24, w27]
    cases b29 : (v28 : Bool)
    · replace h := br_f b29 h
      obtain ⟨v33, q31, h⟩ := bnd_some h
      have w32 := e46_5 a1 a2 a0 p1 s18 x20 v33 q31
      simp only [X46_5] at w32
      try simp -implicitDefEqProofs only [go_sem, Nat.reduceLT, Nat.reduceAdd, Nat.reduceSub, Nat.reduceMul, Nat.reduceEqDiff, Nat.reduceBEq, Nat.reduceLeDiff, Int.reduceToNat, Int.reduceLT, Int.reduceLE, Int.reduceEq, reduceCtorEq, ↓reduceIte] at w32
      try simp -implicitDefEqProofs only [go_sem, Nat.reduceLT, Nat.reduceAdd, Nat.reduceSub, Nat.reduceMul, Nat.reduceEqDiff, Nat.reduceBEq, Nat.reduceLeDiff, Int.reduceToNat, Int.reduceLT, Int.reduceLE, Int.reduceEq, reduceCtorEq, ↓reduceIte, E46_1, X46_1, k46_1b, b19, g22, g23, g24, w27, b29, w32]
      cases b34 : (v33 : Bool)
      · replace h := br_f b34 h
        cases h
        simp -implicitDefEqProofs only [go_sem, Nat.reduceLT, Nat.reduceAdd, Nat.reduceSub, Nat.reduceMul, Nat.reduceEqDiff, Nat.reduceBEq, Nat.reduceLeDiff, Int.reduceToNat, Int.reduceLT, Int.reduceLE, Int.reduceEq, reduceCtorEq, ↓reduceIte, E46_1, X46_1, k46_1b, b19, g22, g23, g24, w27, b29, w32, b34]
      · replace h := br_t b34 h
        cases h
        simp -implicitDefEqProofs only [go_sem, Nat.reduceLT, Nat.reduceAdd, Nat.reduceSub, Nat.reduceMul, Nat.reduceEqDiff, Nat.reduceBEq, Nat.reduceLeDiff, Int.reduceToNat, Int.reduceLT, Int.reduceLE, Int.reduceEq, reduceCtorEq, ↓reduceIte, E46_1, X46_1, k46_1b, b19, g22, g23, g24, w27, b29, w32, b34]
    · replace h := br_t b29 h
      cases h
      simp -implicitDefEqProofs only [go_sem, Nat.reduceLT, Nat.reduceAdd, Nat.reduceSub, Nat.reduceMul, Nat.reduceEqDiff, Nat.reduceBEq, Nat.reduceLeDiff, Int.reduceToNat, Int.reduceLT, Int.reduceLE, Int.reduceEq, reduceCtorEq, ↓reduceIte, E46_1, X46_1, k46_1b, b19, g22, g23, g24, w27, b29]
theorem e46_1 (a1 : Int) (a2 : Int) (a0 : (List Rel)) (p1 : Int) (s : Int) (o : (Unit ⊕ Int)) (h : loopP (m46_1b a1 a2 a0 p1) s = some o) : evCL T 0 (.loop k46_1b) (E46_1 a1 a2 a0 p1 s).1 (E46_1 a1 a2 a0 p1 s).2 = some (X46_1 a1 a2 a0 p1 o) :=
  loop_walk (E := E46_1 a1 a2 a0 p1) (X := X46_1 a1 a2 a0 p1) (by intro b; rcases b with b | b <;> (simp only [X46_1]; nofun)) (b46_1 a1 a2 a0 p1) s o h
theorem call46 (args : List AV) (S : St) : evCall T (evFL T) 46 args S = lendC (evFL T 46) S (lendAll S [[3], [0], [0]] args) := evCall0 fn46 rfl rfl args S
theorem callz46 (args : List AV) (S : St) : evCallFz T (evFL T) 46 args S = lendZ (evFL T 46) S [[0]] (lendAll S [[3], [0], [0]] args) := evCallFz0 fn46 rfl rfl args S
attribute [go_sem] call46 callz46
theorem e46 (a0 : (List Rel)) (a1 : Int) (a2 : Int) (r : Int) (h : m46 a0 a1 a2 = some r) : evFL T 46 [.ts .imm 3 (a0.map encRel), .int .i64 a1, .int .i64 a2] [] = some (.int .i64 r, []) := by
  unfold m46 at h
  rw [evFL_at fn46 (Nat.le_of_ble_eq_true rfl) rfl (.inr rfl)]
  try simp -implicitDefEqProofs only [go_sem, Nat.reduceLT, Nat.reduceAdd, Nat.reduceSub, Nat.reduceMul, Nat.reduceEqDiff, Nat.reduceBEq, Nat.reduceLeDiff, Int.reduceToNat, Int.reduceLT, Int.reduceLE, Int.reduceEq, reduceCtorEq, ↓reduceIte, i46, c46]
  obtain ⟨o, q35, h⟩ := bnd_some h
  rcases o with ⟨⟩ | v37
  · replace h := selS_l h
    have w36 := e46_1 a1 a2 a0 (↑a0.length : Int) 0 (.inl ()) q35
    simp only [E46_1, X46_1] at w36
    try simp -implicitDefEqProofs only [go_sem, Nat.reduceLT, Nat.reduceAdd, Nat.reduceSub, Nat.reduceMul, Nat.reduceEqDiff, Nat.reduceBEq, Nat.reduceLeDiff, Int.reduceToNat, Int.reduceLT, Int.reduceLE, Int.reduceEq, reduceCtorEq, ↓reduceIte] at w36
    cases h
    simp -implicitDefEqProofs only [go_sem, Nat.reduceLT, Nat.reduceAdd, Nat.reduceSub, Nat.reduceMul, Nat.reduceEqDiff, Nat.reduceBEq, Nat.reduceLeDiff, Int.reduceToNat, Int.reduceLT, Int.reduceLE, Int.reduceEq, reduceCtorEq, ↓reduceIte, i46, c46, w36]
  · replace h := selS_r h
    have w36 := e46_1 a1 a2 a0 (↑a0.length : Int) 0 (.inr v37) q35
    simp only [E46_1, X46_1] at w36
    try simp -implicitDefEqProofs only [go_sem, Nat.reduceLT, Nat.reduceAdd, Nat.reduceSub, Nat.reduceMul, Nat.reduceEqDiff, Nat.reduceBEq, Nat.reduceLeDiff, Int.reduceToNat, Int.reduceLT, Int.reduceLE, Int.reduceEq, reduceCtorEq, ↓reduceIte] at w36
    cases h
    simp -implicitDefEqProofs only [go_sem, Nat.reduceLT, Nat.reduceAdd, Nat.reduceSub, Nat.reduceMul, Nat.reduceEqDiff, Nat.reduceBEq, Nat.reduceLeDiff, Int.reduceToNat, Int.reduceLT, Int.reduceLE, Int.reduceEq, reduceCtorEq, ↓reduceIte, i46, c46, w36]
-- f56 impl.isValleyFree
def X56_4 (a0 : (List Rel)) (a1 : (List Int)) (s23 : Bool) (s24 : Int) (r38 : Int) (o : (Bool × Bool)) : Ex × Fr × St :=
  (.normal, frOf 39 (upd (upd (upd (upd (upd (upd anyF 0 (.ts .imm 3 (a0.map encRel))) 1 (.ts .imm 1 (a1.map encInt))) 5 (.bool o.1)) 6 (.int .i64 s24)) 7 (.int .i64 r38)) 33 (.bool o.2)), [])
theorem e56_4 (a0 : (List Rel)) (a1 : (List Int)) (s23 : Bool) (s24 : Int) (r38 : Int) (o : (Bool × Bool)) (h : m56_4 s23 r38 = some o) : evCL T 0 k56_4 (frOf 39 (upd (upd (upd (upd (upd anyF 0 (.ts .imm 3 (a0.map encRel))) 1 (.ts .imm 1 (a1.map encInt))) 5 (.bool s23)) 6 (.int .i64 s24)) 7 (.int .i64 r38))) [] = some (X56_4 a0 a1 s23 s24 r38 o) := by
  unfold m56_4 at h
  try simp -implicitDefEqProofs only [go_sem, Nat.reduceLT, Nat.reduceAdd, Nat.reduceSub, Nat.reduceMul, Nat.reduceEqDiff, Nat.reduceBEq, Nat.reduceLeDiff, Int.reduceToNat, Int.reduceLT, Int.reduceLE, Int.reduceEq, reduceCtorEq, ↓reduceIte, X56_4, k56_4]
  cases b39 : (eqI r38 0 : Bool)
  · replace h := br_f b39 h
    try simp -implicitDefEqProofs only [go_sem, Nat.reduceLT, Nat.reduceAdd, Nat.reduceSub, Nat.reduceMul, Nat.reduceEqDiff, Nat.reduceBEq, Nat.reduceLeDiff, Int.reduceToNat, Int.reduceLT, Int.reduceLE, Int.reduceEq, reduceCtorEq, ↓reduceIte, X56_4, k56_4, b39]
    cases b40 : (s23 : Bool)
    · replace h := br_f b40 h
      cases h
      simp -implicitDefEqProofs only [go_sem, Nat.reduceLT, Nat.reduceAdd, Nat.reduceSub, Nat.reduceMul, Nat.reduceEqDiff, Nat.reduceBEq, Nat.reduceLeDiff, Int.reduceToNat, Int.reduceLT, Int.reduceLE, Int.reduceEq, reduceCtorEq, ↓reduceIte, X56_4, k56_4, b39, b40]
    · replace h := br_t b40 h
      cases h
      simp -implicitDefEqProofs only [go_sem, Nat.reduceLT, Nat.reduceAdd, Nat.reduceSub, Nat.reduceMul, Nat.reduceEqDiff, Nat.reduceBEq, Nat.reduceLeDiff, Int.reduceToNat, Int.reduceLT, Int.reduceLE, Int.reduceEq, reduceCtorEq, ↓reduceIte, X56_4, k56_4, b39, b40]
  · replace h := br_t b39 h
    cases h
    simp -implicitDefEqProofs only [go_sem, Nat.reduceLT, Nat.reduceAdd, Nat.reduceSub, Nat.reduceMul, Nat.reduceEqDiff, Nat.reduceBEq, Nat.reduceLeDiff, Int.reduceToNat, Int.reduceLT, Int.reduceLE, Int.reduceEq, reduceCtorEq, ↓reduceIte, X56_4, k56_4, b39]
def X56_5 (a0 : (List Rel)) (a1 : (List Int)) (v43 : Bool) (s24 : Int) (r38 : Int) (o : Bool) : Ex × Fr × St :=
  (.normal, frOf 39 (upd (upd (upd (upd anyF 0 (.ts .imm 3 (a0.map encRel))) 1 (.ts .imm 1 (a1.map encInt))) 5 (.bool o)) 6 (.int .i64 s24)), [])
theorem e56_5 (a0 : (List Rel)) (a1 : (List Int)) (v43 : Bool) (s24 : Int) (r38 : Int) (o : Bool) (h : m56_5 v43 r38 = some o) : evCL T 0 k56_5 (frOf 39 (upd (upd (upd (upd (upd anyF 0 (.ts .imm 3 (a0.map encRel))) 1 (.ts .imm 1 (a1.map encInt))) 5 (.bool v43)) 6 (.int .i64 s24)) 7 (.int .i64 r38))) [] = some (X56_5 a0 a1 v43 s24 r38 o) := by
  unfold m56_5 at h
  try simp -implicitDefEqProofs only [go_sem, Nat.reduceLT, Nat.reduceAdd, Nat.reduceSub, Nat.reduceMul, Nat.reduceEqDiff, Nat.reduceBEq, Nat.reduceLeDiff, Int.reduceToNat, Int.reduceLT, Int.reduceLE, Int.reduceEq, reduceCtorEq, ↓reduceIte, X56_5, k56_5]
  cases b46 : (v43 : Bool)
  · replace h := br_f b46 h
    cases h
    simp -implicitDefEqProofs only [go_sem, Nat.reduceLT, Nat.reduceAdd, Nat.reduceSub, Nat.reduceMul, Nat.reduceEqDiff, Nat.reduceBEq, Nat.reduceLeDiff, Int.reduceToNat, Int.reduceLT, Int.reduceLE, Int.reduceEq, reduceCtorEq, ↓reduceIte, X56_5, k56_5, b46]
  · replace h := br_t b46 h
    cases h
    simp -implicitDefEqProofs only [go_sem, Nat.reduceLT, Nat.reduceAdd, Nat.reduceSub, Nat.reduceMul, Nat.reduceEqDiff, Nat.reduceBEq, Nat.reduceLeDiff, Int.reduceToNat, Int.reduceLT, Int.reduceLE, Int.reduceEq, reduceCtorEq, ↓reduceIte, X56_5, k56_5, b46]
def X56_1 (a0 : (List Rel)) (a1 : (List Int)) (o : (Unit ⊕ Unit)) : Ex × Fr × St :=
  match o with
  | .inl o => (.exit 0, frOf 39 (anyF), [])
  | .inr o => (.ret, frOf 39 (upd anyF 4 (.bool false)), [])
def E56_1 (a0 : (List Rel)) (a1 : (List Int)) (s : (Bool × Int)) : Fr × St := (frOf 39 (upd (upd (upd (upd anyF 0 (.ts .imm 3 (a0.map encRel))) 1 (.ts .imm 1 (a1.map encInt))) 5 (.bool s.1)) 6 (.int .i64 s.2)), [])
theorem b56_1 (a0 : (List Rel)) (a1 : (List Int)) (s : (Bool × Int)) (o : Ctl (Bool × Int) (Unit ⊕ Unit)) (h : m56_1b a0 a1 s = some o) : evCL T 0 k56_1b (E56_1 a0 a1 s).1 (E56_1 a0 a1 s).2 = some (ctlX (E56_1 a0 a1) (X56_1 a0 a1) o) := by
  unfold m56_1b at h
  obtain ⟨s23, s24⟩ := s
  replace h := sel2_some h
  try simp -implicitDefEqProofs only [go_sem, Nat.reduceLT, Nat.reduceAdd, Nat.reduceSub, Nat.reduceMul, Nat.reduceEqDiff, Nat.reduceBEq, Nat.reduceLeDiff, Int.reduceToNat, Int.reduceLT, Int.reduceLE, Int.reduceEq, reduceCtorEq, ↓reduceIte, E56_1, X56_1, k56_1b]
  cases b25 : (ltI s24 (↑a1.length : Int) : Bool)
  · replace h := br_f b25 h
    cases h
    simp -implicitDefEqProofs only [go_sem, Nat.reduceLT, Nat.reduceAdd, Nat.reduceSub, Nat.reduceMul, Nat.reduceEqDiff, Nat.reduceBEq, Nat.reduceLeDiff, Int.reduceToNat, Int.reduceLT, Int.reduceLE, Int.reduceEq, reduceCtorEq, ↓reduceIte, E56_1, X56_1, k56_1b, b25]
  · replace h := br_t b25 h
    obtain ⟨x26, q27, h⟩ := bnd_some h
    obtain ⟨g28, g29, g30⟩ := idx_row encInt q27
    try simp -implicitDefEqProofs only [go_sem, Nat.reduceLT, Nat.reduceAdd, Nat.reduceSub, Nat.reduceMul, Nat.reduceEqDiff, Nat.reduceBEq, Nat.reduceLeDiff, Int.reduceToNat, Int.reduceLT, Int.reduceLE, Int.reduceEq, reduceCtorEq, ↓reduceIte] at g29
    try simp -implicitDefEqProofs only [go_sem, Nat.reduceLT, Nat.reduceAdd, Nat.reduceSub, Nat.reduceMul, Nat.reduceEqDiff, Nat.reduceBEq, Nat.reduceLeDiff, Int.reduceToNat, Int.reduceLT, Int.reduceLE, Int.reduceEq, reduceCtorEq, ↓reduceIte] at g30
    obtain ⟨x31, q32, h⟩ := bnd_some h
    obtain ⟨g33, g34, g35⟩ := idx_row encInt q32
    try simp -implicitDefEqProofs only [go_sem, Nat.reduceLT, Nat.reduceAdd, Nat.reduceSub, Nat.reduceMul, Nat.reduceEqDiff, Nat.reduceBEq, Nat.reduceLeDiff, Int.reduceToNat, Int.reduceLT, Int.reduceLE, Int.reduceEq, reduceCtorEq, ↓reduceIte] at g34
    try simp -implicitDefEqProofs only [go_sem, Nat.reduceLT, Nat.reduceAdd, Nat.reduceSub, Nat.reduceMul, Nat.reduceEqDiff, Nat.reduceBEq, Nat.reduceLeDiff, Int.reduceToNat, Int.reduceLT, Int.reduceLE, Int.reduceEq, reduceCtorEq, ↓reduceIte] at g35
    obtain ⟨r38, q36, h⟩ := bnd_some h
    have w37 := e46 a0 x26 x31 r38 q36
    try simp -implicitDefEqProofs only [go_sem, Nat.reduceLT, Nat.reduceAdd, Nat.reduceSub, Nat.reduceMul, Nat.reduceEqDiff, Nat.reduceBEq, Nat.reduceLeDiff, Int.reduceToNat, Int.reduceLT, Int.reduceLE, Int.reduceEq, reduceCtorEq, ↓reduceIte] at w37
    obtain ⟨⟨v43, v44⟩, q41, h⟩ := bnd_some h
    replace h := sel2_some h
    have w42 := e56_4 a0 a1 s23 s24 r38 (v43, v44) q41
    simp only [X56_4] at w42
    try simp -implicitDefEqProofs only [go_sem, Nat.reduceLT, Nat.reduceAdd, Nat.reduceSub, Nat.reduceMul, Nat.reduceEqDiff, Nat.reduceBEq, Nat.reduceLeDiff, Int.reduceToNat, Int.reduceLT, Int.reduceLE, Int.reduceEq, reduceCtorEq, ↓reduceIte] at w42
    try simp -implicitDefEqProofs only [go_sem, Nat.reduceLT, Nat.reduceAdd, Nat.reduceSub, Nat.reduceMul, Nat.reduceEqDiff, Nat.reduceBEq, Nat.reduceLeDiff, Int.reduceToNat, Int.reduceLT, Int.reduceLE, Int.reduceEq, reduceCtorEq, ↓reduceIte, E56_1, X56_1, k56_1b, b25, g28, g29, g30, g33, g34, g35, w37, w42]
    cases b45 : (v44 : Bool)
    · replace h := br_f b45 h
      obtain ⟨v49, q47, h⟩ := bnd_some h
      have w48 := e56_5 a0 a1 v43 s24 r38 v49 q47
      simp only [X56_5] at w48
      try simp -implicitDefEqProofs only [go_sem, Nat.reduceLT, Nat.reduceAdd, Nat.reduceSub, Nat.reduceMul, Nat.reduceEqDiff, Nat.reduceBEq, Nat.reduceLeDiff, Int.reduceToNat, Int.reduceLT, Int.reduceLE, Int.reduceEq, reduceCtorEq, ↓reduceIte] at w48
      cases h
      simp -implicitDefEqProofs only [go_sem, Nat.reduceLT, Nat.reduceAdd, Nat.reduceSub, Nat.reduceMul, Nat.reduceEqDiff, Nat.reduceBEq, Nat.reduceLeDiff, Int.reduceToNat, Int.reduceLT, Int.reduceLE, Int.reduceEq, reduceCtorEq, ↓reduceIte, E56_1, X56_1, k56_1b, b25, g28, g29, g30, g33, g34, g35, w37, w42, b45, w48]
    · replace h := br_t b45 h
      cases h
      simp -implicitDefEqProofs only [go_sem, Nat.reduceLT, Nat.reduceAdd, Nat.reduceSub, Nat.reduceMul, Nat.reduceEqDiff, Nat.reduceBEq, Nat.reduceLeDiff, Int.reduceToNat, Int.reduceLT, Int.reduceLE, Int.reduceEq, reduceCtorEq, ↓reduceIte, E56_1, X56_1, k56_1b, b25, g28, g29, g30, g33, g34, g35, w37, w42, b45]
theorem e56_1 (a0 : (List Rel)) (a1 : (List Int)) (s : (Bool × Int)) (o : (Unit ⊕ Unit)) (h : loopP (m56_1b a0 a1) s = some o) : evCL T 0 (.loop k56_1b) (E56_1 a0 a1 s).1 (E56_1 a0 a1 s).2 = some (X56_1 a0 a1 o) :=
  loop_walk (E := E56_1 a0 a1) (X := X56_1 a0 a1) (by intro b; rcases b with b | b <;> (simp only [X56_1]; nofun)) (b56_1 a0 a1) s o h
theorem call56 (args : List AV) (S : St) : evCall T (evFL T) 56 args S = lendC (evFL T 56) S (lendAll S [[3], [1]] args) := evCall0 fn56 rfl rfl args S
theorem callz56 (args : List AV) (S : St) : evCallFz T (evFL T) 56 args S = lendZ (evFL T 56) S [[0]] (lendAll S [[3], [1]] args) := evCallFz0 fn56 rfl rfl args S
attribute [go_sem] call56 callz56
theorem e56 (a0 : (List Rel)) (a1 : (List Int)) (r : Bool) (h : m56 a0 a1 = some r) : evFL T 56 [.ts .imm 3 (a0.map encRel), .ts .imm 1 (a1.map encInt)] [] = some (.bool r, []) := by
  unfold m56 at h
  rw [evFL_at fn56 (Nat.le_of_ble_eq_true rfl) rfl (.inr rfl)]
  try simp -implicitDefEqProofs only [go_sem, Nat.reduceLT, Nat.reduceAdd, Nat.reduceSub, Nat.reduceMul, Nat.reduceEqDiff, Nat.reduceBEq, Nat.reduceLeDiff, Int.reduceToNat, Int.reduceLT, Int.reduceLE, Int.reduceEq, reduceCtorEq, ↓reduceIte, i56, c56]
  obtain ⟨o, q50, h⟩ := bnd_some h
  rcases o with ⟨⟩ | ⟨⟩
  · replace h := selS_l h
    have w51 := e56_1 a0 a1 (false, 1) (.inl ()) q50
    simp only [E56_1, X56_1] at w51
    try simp -implicitDefEqProofs only [go_sem, Nat.reduceLT, Nat.reduceAdd, Nat.reduceSub, Nat.reduceMul, Nat.reduceEqDiff, Nat.reduceBEq, Nat.reduceLeDiff, Int.reduceToNat, Int.reduceLT, Int.reduceLE, Int.reduceEq, reduceCtorEq, ↓reduceIte] at w51
    cases h
    simp -implicitDefEqProofs only [go_sem, Nat.reduceLT, Nat.reduceAdd, Nat.reduceSub, Nat.reduceMul, Nat.reduceEqDiff, Nat.reduceBEq, Nat.reduceLeDiff, Int.reduceToNat, Int.reduceLT, Int.reduceLE, Int.reduceEq, reduceCtorEq, ↓reduceIte, i56, c56, w51]
  · replace h := selS_r h
    have w51 := e56_1 a0 a1 (false, 1) (.inr ()) q50
    simp only [E56_1, X56_1] at w51
    try simp -implicitDefEqProofs only [go_sem, Nat.reduceLT, Nat.reduceAdd, Nat.reduceSub, Nat.reduceMul, Nat.reduceEqDiff, Nat.reduceBEq, Nat.reduceLeDiff, Int.reduceToNat, Int.reduceLT, Int.reduceLE, Int.reduceEq, reduceCtorEq, ↓reduceIte] at w51
    cases h
    simp -implicitDefEqProofs only [go_sem, Nat.reduceLT, Nat.reduceAdd, Nat.reduceSub, Nat.reduceMul, Nat.reduceEqDiff, Nat.reduceBEq, Nat.reduceLeDiff, Int.reduceToNat, Int.reduceLT, Int.reduceLE, Int.reduceEq, reduceCtorEq, ↓reduceIte, i56, c56, w51]
-- f24 impl.IsValleyFree
def X24_1 (a0 : Int) (a1 : (List Rel)) (a2 : (List Int)) (o : Bool) : Ex × Fr × St :=
  (.normal, frOf 57 (upd (upd (upd (upd anyF 0 (.int .i64 a0)) 1 (.ts .imm 3 (a1.map encRel))) 2 (.ts .imm 1 (a2.map encInt))) 19 (.bool o)), [])
theorem e24_1 (a0 : Int) (a1 : (List Rel)) (a2 : (List Int)) (o : Bool) (h : m24_1 a0 a1 a2 = some o) : evCL T 0 k24_1 (frOf 57 (upd (upd (upd anyF 0 (.int .i64 a0)) 1 (.ts .imm 3 (a1.map encRel))) 2 (.ts .imm 1 (a2.map encInt)))) [] = some (X24_1 a0 a1 a2 o) := by
  unfold m24_1 at h
  obtain ⟨r3, q1, h⟩ := bnd_some h
  have w2 := e14 a0 a1 r3 q1
  try simp -implicitDefEqProofs only [go_sem, Nat.reduceLT, Nat.reduceAdd, Nat.reduceSub, Nat.reduceMul, Nat.reduceEqDiff, Nat.reduceBEq, Nat.reduceLeDiff, Int.reduceToNat, Int.reduceLT, Int.reduceLE, Int.reduceEq, reduceCtorEq, ↓reduceIte] at w2
  try simp -implicitDefEqProofs only [go_sem, Nat.reduceLT, Nat.reduceAdd, Nat.reduceSub, Nat.reduceMul, Nat.reduceEqDiff, Nat.reduceBEq, Nat.reduceLeDiff, Int.reduceToNat, Int.reduceLT, Int.reduceLE, Int.reduceEq, reduceCtorEq, ↓reduceIte, X24_1, k24_1, w2]
  cases b4 : (r3 : Bool)
  · replace h := br_f b4 h
    cases h
    simp -implicitDefEqProofs only [go_sem, Nat.reduceLT, Nat.reduceAdd, Nat.reduceSub, Nat.reduceMul, Nat.reduceEqDiff, Nat.reduceBEq, Nat.reduceLeDiff, Int.reduceToNat, Int.reduceLT, Int.reduceLE, Int.reduceEq, reduceCtorEq, ↓reduceIte, X24_1, k24_1, w2, b4]
  · replace h := br_t b4 h
    obtain ⟨r7, q5, h⟩ := bnd_some h
    have w6 := e41 (↑a2.length : Int) 2 6 r7 q5
    try simp -implicitDefEqProofs only [go_sem, Nat.reduceLT, Nat.reduceAdd, Nat.reduceSub, Nat.reduceMul, Nat.reduceEqDiff, Nat.reduceBEq, Nat.reduceLeDiff, Int.reduceToNat, Int.reduceLT, Int.reduceLE, Int.reduceEq, reduceCtorEq, ↓reduceIte] at w6
    cases h
    simp -implicitDefEqProofs only [go_sem, Nat.reduceLT, Nat.reduceAdd, Nat.reduceSub, Nat.reduceMul, Nat.reduceEqDiff, Nat.reduceBEq, Nat.reduceLeDiff, Int.reduceToNat, Int.reduceLT, Int.reduceLE, Int.reduceEq, reduceCtorEq, ↓reduceIte, X24_1, k24_1, w2, b4, w6]
def X24_4 (a0 : Int) (a1 : (List Rel)) (a2 : (List Int)) (s41 : Int) (x43 : Int) (p12 : Int) (o : Bool) : Ex × Fr × St :=
  (.normal, frOf 57 (upd (upd (upd (upd (upd (upd (upd anyF 0 (.int .i64 a0)) 1 (.ts .imm 3 (a1.map encRel))) 2 (.ts .imm 1 (a2.map encInt))) 20 (.ts .imm 1 (a2.map encInt))) 21 (.int .i64 p12)) 22 (.int .i64 s41)) 52 (.bool o)), [])
theorem e24_4 (a0 : Int) (a1 : (List Rel)) (a2 : (List Int)) (s41 : Int) (x43 : Int) (p12 : Int) (o : Bool) (h : m24_4 a0 a1 a2 s41 x43 = some o) : evCL T 0 k24_4 (frOf 57 (upd (upd (upd (upd (upd (upd (upd (upd anyF 0 (.int .i64 a0)) 1 (.ts .imm 3 (a1.map encRel))) 2 (.ts .imm 1 (a2.map encInt))) 8 (.int .i64 s41)) 9 (.int .i64 x43)) 20 (.ts .imm 1 (a2.map encInt))) 21 (.int .i64 p12)) 22 (.int .i64 s41))) [] = some (X24_4 a0 a1 a2 s41 x43 p12 o) := by
  unfold m24_4 at h
  obtain ⟨r50, q48, h⟩ := bnd_some h
  have w49 := e41 x43 0 a0 r50 q48
  try simp -implicitDefEqProofs only [go_sem, Nat.reduceLT, Nat.reduceAdd, Nat.reduceSub, Nat.reduceMul, Nat.reduceEqDiff, Nat.reduceBEq, Nat.reduceLeDiff, Int.reduceToNat, Int.reduceLT, Int.reduceLE, Int.reduceEq, reduceCtorEq, ↓reduceIte] at w49
  try simp -implicitDefEqProofs only [go_sem, Nat.reduceLT, Nat.reduceAdd, Nat.reduceSub, Nat.reduceMul, Nat.reduceEqDiff, Nat.reduceBEq, Nat.reduceLeDiff, Int.reduceToNat, Int.reduceLT, Int.reduceLE, Int.reduceEq, reduceCtorEq, ↓reduceIte, X24_4, k24_4, w49]
  cases b51 : (r50 : Bool)
  · replace h := br_f b51 h
    cases h
    simp -implicitDefEqProofs only [go_sem, Nat.reduceLT, Nat.reduceAdd, Nat.reduceSub, Nat.reduceMul, Nat.reduceEqDiff, Nat.reduceBEq, Nat.reduceLeDiff, Int.reduceToNat, Int.reduceLT, Int.reduceLE, Int.reduceEq, reduceCtorEq, ↓reduceIte, X24_4, k24_4, w49, b51]
  · replace h := br_t b51 h
    obtain ⟨g52, h⟩ := ck_some h
    try simp -implicitDefEqProofs only [go_sem, Nat.reduceLT, Nat.reduceAdd, Nat.reduceSub, Nat.reduceMul, Nat.reduceEqDiff, Nat.reduceBEq, Nat.reduceLeDiff, Int.reduceToNat, Int.reduceLT, Int.reduceLE, Int.reduceEq, reduceCtorEq, ↓reduceIte] at g52
    obtain ⟨r55, q53, h⟩ := bnd_some h
    have w54 := e55 (a2.take s41.toNat) x43 r55 q53
    try simp -implicitDefEqProofs only [go_sem, Nat.reduceLT, Nat.reduceAdd, Nat.reduceSub, Nat.reduceMul, Nat.reduceEqDiff, Nat.reduceBEq, Nat.reduceLeDiff, Int.reduceToNat, Int.reduceLT, Int.reduceLE, Int.reduceEq, reduceCtorEq, ↓reduceIte] at w54
    try simp -implicitDefEqProofs only [go_sem, Nat.reduceLT, Nat.reduceAdd, Nat.reduceSub, Nat.reduceMul, Nat.reduceEqDiff, Nat.reduceBEq, Nat.reduceLeDiff, Int.reduceToNat, Int.reduceLT, Int.reduceLE, Int.reduceEq, reduceCtorEq, ↓reduceIte, X24_4, k24_4, w49, b51, g52, w54]
    cases b56 : (r55 : Bool)
    · replace h := br_f b56 h
      try simp -implicitDefEqProofs only [go_sem, Nat.reduceLT, Nat.reduceAdd, Nat.reduceSub, Nat.reduceMul, Nat.reduceEqDiff, Nat.reduceBEq, Nat.reduceLeDiff, Int.reduceToNat, Int.reduceLT, Int.reduceLE, Int.reduceEq, reduceCtorEq, ↓reduceIte, X24_4, k24_4, w49, b51, g52, w54, b56]
      cases b57 : (ltI 0 s41 : Bool)
      · replace h := br_f b57 h
        cases h
        simp -implicitDefEqProofs only [go_sem, Nat.reduceLT, Nat.reduceAdd, Nat.reduceSub, Nat.reduceMul, Nat.reduceEqDiff, Nat.reduceBEq, Nat.reduceLeDiff, Int.reduceToNat, Int.reduceLT, Int.reduceLE, Int.reduceEq, reduceCtorEq, ↓reduceIte, X24_4, k24_4, w49, b51, g52, w54, b56, b57]
      · replace h := br_t b57 h
        obtain ⟨x58, q59, h⟩ := bnd_some h
        obtain ⟨g60, g61, g62⟩ := idx_row encInt q59
        try simp -implicitDefEqProofs only [go_sem, Nat.reduceLT, Nat.reduceAdd, Nat.reduceSub, Nat.reduceMul, Nat.reduceEqDiff, Nat.reduceBEq, Nat.reduceLeDiff, Int.reduceToNat, Int.reduceLT, Int.reduceLE, Int.reduceEq, reduceCtorEq, ↓reduceIte] at g61
        try simp -implicitDefEqProofs only [go_sem, Nat.reduceLT, Nat.reduceAdd, Nat.reduceSub, Nat.reduceMul, Nat.reduceEqDiff, Nat.reduceBEq, Nat.reduceLeDiff, Int.reduceToNat, Int.reduceLT, Int.reduceLE, Int.reduceEq, reduceCtorEq, ↓reduceIte] at g62
        obtain ⟨r65, q63, h⟩ := bnd_some h
        have w64 := e46 a1 x58 x43 r65 q63
        try simp -implicitDefEqProofs only [go_sem, Nat.reduceLT, Nat.reduceAdd, Nat.reduceSub, Nat.reduceMul, Nat.reduceEqDiff, Nat.reduceBEq, Nat.reduceLeDiff, Int.reduceToNat, Int.reduceLT, Int.reduceLE, Int.reduceEq, reduceCtorEq, ↓reduceIte] at w64
        cases h
        simp -implicitDefEqProofs only [go_sem, Nat.reduceLT, Nat.reduceAdd, Nat.reduceSub, Nat.reduceMul, Nat.reduceEqDiff, Nat.reduceBEq, Nat.reduceLeDiff, Int.reduceToNat, Int.reduceLT, Int.reduceLE, Int.reduceEq, reduceCtorEq, ↓reduceIte, X24_4, k24_4, w49, b51, g52, w54, b56, b57, g60, g61, g62, w64]
    · replace h := br_t b56 h
      cases h
      simp -implicitDefEqProofs only [go_sem, Nat.reduceLT, Nat.reduceAdd, Nat.reduceSub, Nat.reduceMul, Nat.reduceEqDiff, Nat.reduceBEq, Nat.reduceLeDiff, Int.reduceToNat, Int.reduceLT, Int.reduceLE, Int.reduceEq, reduceCtorEq, ↓reduceIte, X24_4, k24_4, w49, b51, g52, w54, b56]
def X24_2 (a0 : Int) (a1 : (List Rel)) (a2 : (List Int)) (p12 : Int) (o : (Unit ⊕ Unit)) : Ex × Fr × St :=
  match o with
  | .inl o => (.exit 0, frOf 57 (upd (upd anyF 1 (.ts .imm 3 (a1.map encRel))) 2 (.ts .imm 1 (a2.map encInt))), [])
  | .inr o => (.ret, frOf 57 (upd (upd anyF 6 (.bool false)) 7 (.bool false)), [])
def E24_2 (a0 : Int) (a1 : (List Rel)) (a2 : (List Int)) (p12 : Int) (s : Int) : Fr × St := (frOf 57 (upd (upd (upd (upd (upd (upd anyF 0 (.int .i64 a0)) 1 (.ts .imm 3 (a1.map encRel))) 2 (.ts .imm 1 (a2.map encInt))) 20 (.ts .imm 1 (a2.map encInt))) 21 (.int .i64 p12)) 22 (.int .i64 s)), [])
theorem b24_2 (a0 : Int) (a1 : (List Rel)) (a2 : (List Int)) (p12 : Int) (s : Int) (o : Ctl Int (Unit ⊕ Unit)) (h : m24_2b a0 a1 a2 p12 s = some o) : evCL T 0 k24_2b (E24_2 a0 a1 a2 p12 s).1 (E24_2 a0 a1 a2 p12 s).2 = some (ctlX (E24_2 a0 a1 a2 p12) (X24_2 a0 a1 a2 p12) o) := by
  unfold m24_2b at h
  revert h
  generalize s = s41
  intro h
  try simp -implicitDefEqProofs only [go_sem, Nat.reduceLT, Nat.reduceAdd, Nat.reduceSub, Nat.reduceMul, Nat.reduceEqDiff, Nat.reduceBEq, Nat.reduceLeDiff, Int.reduceToNat, Int.reduceLT, Int.reduceLE, Int.reduceEq, reduceCtorEq, ↓reduceIte, E24_2, X24_2, k24_2b]
  cases b42 : (ltI s41 p12 : Bool)
  · replace h := br_f b42 h
    cases h
    simp -implicitDefEqProofs only [go_sem, Nat.reduceLT, Nat.reduceAdd, Nat.reduceSub, Nat.reduceMul, Nat.reduceEqDiff, Nat.reduceBEq, Nat.reduceLeDiff, Int.reduceToNat, Int.reduceLT, Int.reduceLE, Int.reduceEq, reduceCtorEq, ↓reduceIte, E24_2, X24_2, k24_2b, b42]
  · replace h := br_t b42 h
    obtain ⟨x43, q44, h⟩ := bnd_some h
    obtain ⟨g45, g46, g47⟩ := idx_row encInt q44
    try simp -implicitDefEqProofs only [go_sem, Nat.reduceLT, Nat.reduceAdd, Nat.reduceSub, Nat.reduceMul, Nat.reduceEqDiff, Nat.reduceBEq, Nat.reduceLeDiff, Int.reduceToNat, Int.reduceLT, Int.reduceLE, Int.reduceEq, reduceCtorEq, ↓reduceIte] at g46
    try simp -implicitDefEqProofs only [go_sem, Nat.reduceLT, Nat.reduceAdd, Nat.reduceSub, Nat.reduceMul, Nat.reduceEqDiff, Nat.reduceBEq, Nat.reduceLeDiff, Int.reduceToNat, Int.reduceLT, Int.reduceLE, Int.reduceEq, reduceCtorEq, ↓reduceIte] at g47
    obtain ⟨v68, q66, h⟩ := bnd_some h
    have w67 := e24_4 a0 a1 a2 s41 x43 p12 v68 q66
    simp only [X24_4] at w67
    try simp -implicitDefEqProofs only [go_sem, Nat.reduceLT, Nat.reduceAdd, Nat.reduceSub, Nat.reduceMul, Nat.reduceEqDiff, Nat.reduceBEq, Nat.reduceLeDiff, Int.reduceToNat, Int.reduceLT, Int.reduceLE, Int.reduceEq, reduceCtorEq, ↓reduceIte] at w67
    try simp -implicitDefEqProofs only [go_sem, Nat.reduceLT, Nat.reduceAdd, Nat.reduceSub, Nat.reduceMul, Nat.reduceEqDiff, Nat.reduceBEq, Nat.reduceLeDiff, Int.reduceToNat, Int.reduceLT, Int.reduceLE, Int.reduceEq, reduceCtorEq, ↓reduceIte, E24_2, X24_2, k24_2b, b42, g45, g46, g47, w67]
    cases b69 : (v68 : Bool)
    · replace h := br_f b69 h
      cases h
      simp -implicitDefEqProofs only [go_sem, Nat.reduceLT, Nat.reduceAdd, Nat.reduceSub, Nat.reduceMul, Nat.reduceEqDiff, Nat.reduceBEq, Nat.reduceLeDiff, Int.reduceToNat, Int.reduceLT, Int.reduceLE, Int.reduceEq, reduceCtorEq, ↓reduceIte, E24_2, X24_2, k24_2b, b42, g45, g46, g47, w67, b69]
    · replace h := br_t b69 h
      cases h
      simp -implicitDefEqProofs only [go_sem, Nat.reduceLT, Nat.reduceAdd, Nat.reduceSub, Nat.reduceMul, Nat.reduceEqDiff, Nat.reduceBEq, Nat.reduceLeDiff, Int.reduceToNat, Int.reduceLT, Int.reduceLE, Int.reduceEq, reduceCtorEq, ↓reduceIte, E24_2, X24_2, k24_2b, b42, g45, g46, g47, w67, b69]
theorem e24_2 (a0 : Int) (a1 : (List Rel)) (a2 : (List Int)) (p12 : Int) (s : Int) (o : (Unit ⊕ Unit)) (h : loopP (m24_2b a0 a1 a2 p12) s = some o) : evCL T 0 (.loop k24_2b) (E24_2 a0 a1 a2 p12 s).1 (E24_2 a0 a1 a2 p12 s).2 = some (X24_2 a0 a1 a2 p12 o) :=
  loop_walk (E := E24_2 a0 a1 a2 p12) (X := X24_2 a0 a1 a2 p12) (by intro b; rcases b with b | b <;> (simp only [X24_2]; nofun)) (b24_2 a0 a1 a2 p12) s o h
theorem call24 (args : List AV) (S : St) : evCall T (evFL T) 24 args S = lendC (evFL T 24) S (lendAll S [[0], [3], [1]] args) := evCall0 fn24 rfl rfl args S
theorem callz24 (args : List AV) (S : St) : evCallFz T (evFL T) 24 args S = lendZ (evFL T 24) S [[0], [0]] (lendAll S [[0], [3], [1]] args) := evCallFz0 fn24 rfl rfl args S
attribute [go_sem] call24 callz24
theorem e24 (a0 : Int) (a1 : (List Rel)) (a2 : (List Int)) (r : (Bool × Bool)) (h : m24 a0 a1 a2 = some r) : evFL T 24 [.int .i64 a0, .ts .imm 3 (a1.map encRel), .ts .imm 1 (a2.map encInt)] [] = some (.tup [.bool r.1, .bool r.2], []) := by
  unfold m24 at h
  rw [evFL_at fn24 (Nat.le_of_ble_eq_true rfl) rfl (.inr rfl)]
  obtain ⟨v10, q8, h⟩ := bnd_some h
  have w9 := e24_1 a0 a1 a2 v10 q8
  simp only [X24_1] at w9
  try simp -implicitDefEqProofs only [go_sem, Nat.reduceLT, Nat.reduceAdd, Nat.reduceSub, Nat.reduceMul, Nat.reduceEqDiff, Nat.reduceBEq, Nat.reduceLeDiff, Int.reduceToNat, Int.reduceLT, Int.reduceLE, Int.reduceEq, reduceCtorEq, ↓reduceIte] at w9
  try simp -implicitDefEqProofs only [go_sem, Nat.reduceLT, Nat.reduceAdd, Nat.reduceSub, Nat.reduceMul, Nat.reduceEqDiff, Nat.reduceBEq, Nat.reduceLeDiff, Int.reduceToNat, Int.reduceLT, Int.reduceLE, Int.reduceEq, reduceCtorEq, ↓reduceIte, i24, c24, w9]
  cases b11 : (v10 : Bool)
  · replace h := br_f b11 h
    try simp -implicitDefEqProofs only [go_sem, Nat.reduceLT, Nat.reduceAdd, Nat.reduceSub, Nat.reduceMul, Nat.reduceEqDiff, Nat.reduceBEq, Nat.reduceLeDiff, Int.reduceToNat, Int.reduceLT, Int.reduceLE, Int.reduceEq, reduceCtorEq, ↓reduceIte, i24, c24, w9, b11]
    obtain ⟨o, q70, h⟩ := bnd_some h
    rcases o with ⟨⟩ | ⟨⟩
    · replace h := selS_l h
      have w71 := e24_2 a0 a1 a2 (↑a2.length : Int) 0 (.inl ()) q70
      simp only [E24_2, X24_2] at w71
      try simp -implicitDefEqProofs only [go_sem, Nat.reduceLT, Nat.reduceAdd, Nat.reduceSub, Nat.reduceMul, Nat.reduceEqDiff, Nat.reduceBEq, Nat.reduceLeDiff, Int.reduceToNat, Int.reduceLT, Int.reduceLE, Int.reduceEq, reduceCtorEq, ↓reduceIte] at w71
      obtain ⟨r74, q72, h⟩ := bnd_some h
      have w73 := e56 a1 a2 r74 q72
      try simp -implicitDefEqProofs only [go_sem, Nat.reduceLT, Nat.reduceAdd, Nat.reduceSub, Nat.reduceMul, Nat.reduceEqDiff, Nat.reduceBEq, Nat.reduceLeDiff, Int.reduceToNat, Int.reduceLT, Int.reduceLE, Int.reduceEq, reduceCtorEq, ↓reduceIte] at w73
      cases h
      simp -implicitDefEqProofs only [go_sem, Nat.reduceLT, Nat.reduceAdd, Nat.reduceSub, Nat.reduceMul, Nat.reduceEqDiff, Nat.reduceBEq, Nat.reduceLeDiff, Int.reduceToNat, Int.reduceLT, Int.reduceLE, Int.reduceEq, reduceCtorEq, ↓reduceIte, i24, c24, w9, b11, w71, w73]
    · replace h := selS_r h
      have w71 := e24_2 a0 a1 a2 (↑a2.length : Int) 0 (.inr ()) q70
      simp only [E24_2, X24_2] at w71
      try simp -implicitDefEqProofs only [go_sem, Nat.reduceLT, Nat.reduceAdd, Nat.reduceSub, Nat.reduceMul, Nat.reduceEqDiff, Nat.reduceBEq, Nat.reduceLeDiff, Int.reduceToNat, Int.reduceLT, Int.reduceLE, Int.reduceEq, reduceCtorEq, ↓reduceIte] at w71
      cases h
      simp -implicitDefEqProofs only [go_sem, Nat.reduceLT, Nat.reduceAdd, Nat.reduceSub, Nat.reduceMul, Nat.reduceEqDiff, Nat.reduceBEq, Nat.reduceLeDiff, Int.reduceToNat, Int.reduceLT, Int.reduceLE, Int.reduceEq, reduceCtorEq, ↓reduceIte, i24, c24, w9, b11, w71]
  · replace h := br_t b11 h
    cases h
    simp -implicitDefEqProofs only [go_sem, Nat.reduceLT, Nat.reduceAdd, Nat.reduceSub, Nat.reduceMul, Nat.reduceEqDiff, Nat.reduceBEq, Nat.reduceLeDiff, Int.reduceToNat, Int.reduceLT, Int.reduceLE, Int.reduceEq, reduceCtorEq, ↓reduceIte, i24, c24, w9, b11]
-- f39 spec.l1In
def X39_1 (a0 : Int) (a1 : Int) (a2 : Int) (o : Bool) : Ex × Fr × St :=
  (.normal, frOf 15 (upd anyF 6 (.bool o)), [])
theorem e39_1 (a0 : Int) (a1 : Int) (a2 : Int) (o : Bool) (h : m39_1 a0 a1 a2 = some o) : evCL T 0 k39_1 (frOf 15 (upd (upd (upd anyF 0 (.int .i64 a0)) 1 (.int .i64 a1)) 2 (.int .i64 a2))) [] = some (X39_1 a0 a1 a2 o) := by
  unfold m39_1 at h
  try simp -implicitDefEqProofs only [go_sem, Nat.reduceLT, Nat.reduceAdd, Nat.reduceSub, Nat.reduceMul, Nat.reduceEqDiff, Nat.reduceBEq, Nat.reduceLeDiff, Int.reduceToNat, Int.reduceLT, Int.reduceLE, Int.reduceEq, reduceCtorEq, ↓reduceIte, X39_1, k39_1]
  cases b1 : (leI a1 a0 : Bool)
  · replace h := br_f b1 h
    cases h
    simp -implicitDefEqProofs only [go_sem, Nat.reduceLT, Nat.reduceAdd, Nat.reduceSub, Nat.reduceMul, Nat.reduceEqDiff, Nat.reduceBEq, Nat.reduceLeDiff, Int.reduceToNat, Int.reduceLT, Int.reduceLE, Int.reduceEq, reduceCtorEq, ↓reduceIte, X39_1, k39_1, b1]
  · replace h := br_t b1 h
    cases h
    simp -implicitDefEqProofs only [go_sem, Nat.reduceLT, Nat.reduceAdd, Nat.reduceSub, Nat.reduceMul, Nat.reduceEqDiff, Nat.reduceBEq, Nat.reduceLeDiff, Int.reduceToNat, Int.reduceLT, Int.reduceLE, Int.reduceEq, reduceCtorEq, ↓reduceIte, X39_1, k39_1, b1]
theorem call39 (args : List AV) (S : St) : evCall T (evFL T) 39 args S = lendC (evFL T 39) S (lendAll S [[0], [0], [0]] args) := evCall0 fn39 rfl rfl args S
theorem callz39 (args : List AV) (S : St) : evCallFz T (evFL T) 39 args S = lendZ (evFL T 39) S [[0]] (lendAll S [[0], [0], [0]] args) := evCallFz0 fn39 rfl rfl args S
attribute [go_sem] call39 callz39
theorem e39 (a0 : Int) (a1 : Int) (a2 : Int) (r : Bool) (h : m39 a0 a1 a2 = some r) : evFL T 39 [.int .i64 a0, .int .i64 a1, .int .i64 a2] [] = some (.bool r, []) := by
  unfold m39 at h
  rw [evFL_at fn39 (Nat.le_of_ble_eq_true rfl) rfl (.inr rfl)]
  obtain ⟨v4, q2, h⟩ := bnd_some h
  have w3 := e39_1 a0 a1 a2 v4 q2
  simp only [X39_1] at w3
  try simp -implicitDefEqProofs only [go_sem, Nat.reduceLT, Nat.reduceAdd, Nat.reduceSub, Nat.reduceMul, Nat.reduceEqDiff, Nat.reduceBEq, Nat.reduceLeDiff, Int.reduceToNat, Int.reduceLT, Int.reduceLE, Int.reduceEq, reduceCtorEq, ↓reduceIte] at w3
  cases h
  simp -implicitDefEqProofs only [go_sem, Nat.reduceLT, Nat.reduceAdd, Nat.reduceSub, Nat.reduceMul, Nat.reduceEqDiff, Nat.reduceBEq, Nat.reduceLeDiff, Int.reduceToNat, Int.reduceLT, Int.reduceLE, Int.reduceEq, reduceCtorEq, ↓reduceIte, i39, c39, w3]
-- f12 spec.GoodRels
def X12_1 (a0 : Int) (a1 : (List Rel)) (o : Bool) : Ex × Fr × St :=
  (.normal, frOf 68 (upd (upd (upd anyF 0 (.int .i64 a0)) 1 (.ts .imm 3 (a1.map encRel))) 16 (.bool o)), [])
theorem e12_1 (a0 : Int) (a1 : (List Rel)) (o : Bool) (h : m12_1 a0 a1 = some o) : evCL T 0 k12_1 (frOf 68 (upd (upd anyF 0 (.int .i64 a0)) 1 (.ts .imm 3 (a1.map encRel)))) [] = some (X12_1 a0 a1 o) := by
  unfold m12_1 at h
  obtain ⟨r3, q1, h⟩ := bnd_some h
  have w2 := e39 a0 1 5 r3 q1
  try simp -implicitDefEqProofs only [go_sem, Nat.reduceLT, Nat.reduceAdd, Nat.reduceSub, Nat.reduceMul, Nat.reduceEqDiff, Nat.reduceBEq, Nat.reduceLeDiff, Int.reduceToNat, Int.reduceLT, Int.reduceLE, Int.reduceEq, reduceCtorEq, ↓reduceIte] at w2
  try simp -implicitDefEqProofs only [go_sem, Nat.reduceLT, Nat.reduceAdd, Nat.reduceSub, Nat.reduceMul, Nat.reduceEqDiff, Nat.reduceBEq, Nat.reduceLeDiff, Int.reduceToNat, Int.reduceLT, Int.reduceLE, Int.reduceEq, reduceCtorEq, ↓reduceIte, X12_1, k12_1, w2]
  cases b4 : (r3 : Bool)
  · replace h := br_f b4 h
    cases h
    simp -implicitDefEqProofs only [go_sem, Nat.reduceLT, Nat.reduceAdd, Nat.reduceSub, Nat.reduceMul, Nat.reduceEqDiff, Nat.reduceBEq, Nat.reduceLeDiff, Int.reduceToNat, Int.reduceLT, Int.reduceLE, Int.reduceEq, reduceCtorEq, ↓reduceIte, X12_1, k12_1, w2, b4]
  · replace h := br_t b4 h
    cases h
    simp -implicitDefEqProofs only [go_sem, Nat.reduceLT, Nat.reduceAdd, Nat.reduceSub, Nat.reduceMul, Nat.reduceEqDiff, Nat.reduceBEq, Nat.reduceLeDiff, Int.reduceToNat, Int.reduceLT, Int.reduceLE, Int.reduceEq, reduceCtorEq, ↓reduceIte, X12_1, k12_1, w2, b4]
def X12_7 (a0 : Int) (a1 : (List Rel)) (s54 : Int) (p9 : Int) (x56 : Rel) (o : Bool) : Ex × Fr × St :=
  (.normal, frOf 68 (upd (upd (upd (upd (upd (upd (upd (upd anyF 0 (.int .i64 a0)) 1 (.ts .imm 3 (a1.map encRel))) 5 (.int .i64 s54)) 6 (.ptr 0 0 0)) 17 (.ts .imm 3 (a1.map encRel))) 18 (.int .i64 p9)) 19 (.int .i64 s54)) 45 (.bool o)), [some ⟨.box, 3, [[.int .i64 x56.a, .int .i64 x56.b, .int .i64 x56.kind]]⟩])
theorem e12_7 (a0 : Int) (a1 : (List Rel)) (s54 : Int) (p9 : Int) (x56 : Rel) (o : Bool) (h : m12_7 a0 x56 = some o) : evCL T 0 k12_7 (frOf 68 (upd (upd (upd (upd (upd (upd (upd anyF 0 (.int .i64 a0)) 1 (.ts .imm 3 (a1.map encRel))) 5 (.int .i64 s54)) 6 (.ptr 0 0 0)) 17 (.ts .imm 3 (a1.map encRel))) 18 (.int .i64 p9)) 19 (.int .i64 s54))) [some ⟨.box, 3, [[.int .i64 x56.a, .int .i64 x56.b, .int .i64 x56.kind]]⟩] = some (X12_7 a0 a1 s54 p9 x56 o) := by
  unfold m12_7 at h
  try simp -implicitDefEqProofs only [go_sem, Nat.reduceLT, Nat.reduceAdd, Nat.reduceSub, Nat.reduceMul, Nat.reduceEqDiff, Nat.reduceBEq, Nat.reduceLeDiff, Int.reduceToNat, Int.reduceLT, Int.reduceLE, Int.reduceEq, reduceCtorEq, ↓reduceIte, X12_7, k12_7]
  cases b61 : (ltI x56.a 0 : Bool)
  · replace h := br_f b61 h
    try simp -implicitDefEqProofs only [go_sem, Nat.reduceLT, Nat.reduceAdd, Nat.reduceSub, Nat.reduceMul, Nat.reduceEqDiff, Nat.reduceBEq, Nat.reduceLeDiff, Int.reduceToNat, Int.reduceLT, Int.reduceLE, Int.reduceEq, reduceCtorEq, ↓reduceIte, X12_7, k12_7, b61]
    cases b62 : (leI x56.b x56.a : Bool)
    · replace h := br_f b62 h
      try simp -implicitDefEqProofs only [go_sem, Nat.reduceLT, Nat.reduceAdd, Nat.reduceSub, Nat.reduceMul, Nat.reduceEqDiff, Nat.reduceBEq, Nat.reduceLeDiff, Int.reduceToNat, Int.reduceLT, Int.reduceLE, Int.reduceEq, reduceCtorEq, ↓reduceIte, X12_7, k12_7, b61, b62]
      cases b63 : (ltI a0 x56.b : Bool)
      · replace h := br_f b63 h
        obtain ⟨r66, q64, h⟩ := bnd_some h
        have w65 := e39 x56.kind 1 3 r66 q64
        try simp -implicitDefEqProofs only [go_sem, Nat.reduceLT, Nat.reduceAdd, Nat.reduceSub, Nat.reduceMul, Nat.reduceEqDiff, Nat.reduceBEq, Nat.reduceLeDiff, Int.reduceToNat, Int.reduceLT, Int.reduceLE, Int.reduceEq, reduceCtorEq, ↓reduceIte] at w65
        cases h
        simp -implicitDefEqProofs only [go_sem, Nat.reduceLT, Nat.reduceAdd, Nat.reduceSub, Nat.reduceMul, Nat.reduceEqDiff, Nat.reduceBEq, Nat.reduceLeDiff, Int.reduceToNat, Int.reduceLT, Int.reduceLE, Int.reduceEq, reduceCtorEq, ↓reduceIte, X12_7, k12_7, b61, b62, b63, w65]
      · replace h := br_t b63 h
        cases h
        simp -implicitDefEqProofs only [go_sem, Nat.reduceLT, Nat.reduceAdd, Nat.reduceSub, Nat.reduceMul, Nat.reduceEqDiff, Nat.reduceBEq, Nat.reduceLeDiff, Int.reduceToNat, Int.reduceLT, Int.reduceLE, Int.reduceEq, reduceCtorEq, ↓reduceIte, X12_7, k12_7, b61, b62, b63]
    · replace h := br_t b62 h
      cases h
      simp -implicitDefEqProofs only [go_sem, Nat.reduceLT, Nat.reduceAdd, Nat.reduceSub, Nat.reduceMul, Nat.reduceEqDiff, Nat.reduceBEq, Nat.reduceLeDiff, Int.reduceToNat, Int.reduceLT, Int.reduceLE, Int.reduceEq, reduceCtorEq, ↓reduceIte, X12_7, k12_7, b61, b62]
  · replace h := br_t b61 h
    cases h
    simp -implicitDefEqProofs only [go_sem, Nat.reduceLT, Nat.reduceAdd, Nat.reduceSub, Nat.reduceMul, Nat.reduceEqDiff, Nat.reduceBEq, Nat.reduceLeDiff, Int.reduceToNat, Int.reduceLT, Int.reduceLE, Int.reduceEq, reduceCtorEq, ↓reduceIte, X12_7, k12_7, b61]
def X12_10 (a0 : Int) (a1 : (List Rel)) (p9 : Int) (s54 : Int) (p72 : List Rel) (p73 : Int) (s85 : Int) (x56 : Rel) (x87 : Rel) (o : Bool) : Ex × Fr × St :=
  (.normal, frOf 68 (upd (upd (upd (upd (upd (upd (upd (upd (upd (upd anyF 0 (.int .i64 a0)) 1 (.ts .imm 3 (a1.map encRel))) 6 (.ptr 0 0 0)) 17 (.ts .imm 3 (a1.map encRel))) 18 (.int .i64 p9)) 19 (.int .i64 s54)) 48 (.ts .imm 3 (p72.map encRel))) 49 (.int .i64 p73)) 50 (.int .i64 s85)) 65 (.bool o)), [some ⟨.box, 3, [[.int .i64 x56.a, .int .i64 x56.b, .int .i64 x56.kind]]⟩])
theorem e12_10 (a0 : Int) (a1 : (List Rel)) (p9 : Int) (s54 : Int) (p72 : List Rel) (p73 : Int) (s85 : Int) (x56 : Rel) (x87 : Rel) (o : Bool) (h : m12_10 x56 x87 = some o) : evCL T 0 k12_10 (frOf 68 (upd (upd (upd (upd (upd (upd (upd (upd (upd (upd anyF 0 (.int .i64 a0)) 1 (.ts .imm 3 (a1.map encRel))) 6 (.ptr 0 0 0)) 8 (.ptr 1 0 0)) 17 (.ts .imm 3 (a1.map encRel))) 18 (.int .i64 p9)) 19 (.int .i64 s54)) 48 (.ts .imm 3 (p72.map encRel))) 49 (.int .i64 p73)) 50 (.int .i64 s85))) [some ⟨.box, 3, [[.int .i64 x56.a, .int .i64 x56.b, .int .i64 x56.kind]]⟩, some ⟨.box, 3, [[.int .i64 x87.a, .int .i64 x87.b, .int .i64 x87.kind]]⟩] = some (X12_10 a0 a1 p9 s54 p72 p73 s85 x56 x87 o) := by
  unfold m12_10 at h
  try simp -implicitDefEqProofs only [go_sem, Nat.reduceLT, Nat.reduceAdd, Nat.reduceSub, Nat.reduceMul, Nat.reduceEqDiff, Nat.reduceBEq, Nat.reduceLeDiff, Int.reduceToNat, Int.reduceLT, Int.reduceLE, Int.reduceEq, reduceCtorEq, ↓reduceIte, X12_10, k12_10]
  cases b92 : (eqI x87.a x56.a : Bool)
  · replace h := br_f b92 h
    cases h
    simp -implicitDefEqProofs only [go_sem, Nat.reduceLT, Nat.reduceAdd, Nat.reduceSub, Nat.reduceMul, Nat.reduceEqDiff, Nat.reduceBEq, Nat.reduceLeDiff, Int.reduceToNat, Int.reduceLT, Int.reduceLE, Int.reduceEq, reduceCtorEq, ↓reduceIte, X12_10, k12_10, b92]
  · replace h := br_t b92 h
    cases h
    simp -implicitDefEqProofs only [go_sem, Nat.reduceLT, Nat.reduceAdd, Nat.reduceSub, Nat.reduceMul, Nat.reduceEqDiff, Nat.reduceBEq, Nat.reduceLeDiff, Int.reduceToNat, Int.reduceLT, Int.reduceLE, Int.reduceEq, reduceCtorEq, ↓reduceIte, X12_10, k12_10, b92]
def X12_8 (a0 : Int) (a1 : (List Rel)) (p9 : Int) (s54 : Int) (p72 : List Rel) (p73 : Int) (x56 : Rel) (o : (Unit ⊕ Unit)) : Ex × Fr × St :=
  match o with
  | .inl o => (.exit 2, frOf 68 (upd (upd (upd (upd (upd anyF 0 (.int .i64 a0)) 1 (.ts .imm 3 (a1.map encRel))) 17 (.ts .imm 3 (a1.map encRel))) 18 (.int .i64 p9)) 19 (.int .i64 s54)), [])
  | .inr o => (.ret, frOf 68 (upd anyF 4 (.bool false)), [])
def E12_8 (a0 : Int) (a1 : (List Rel)) (p9 : Int) (s54 : Int) (p72 : List Rel) (p73 : Int) (x56 : Rel) (s : Int) : Fr × St := (frOf 68 (upd (upd (upd (upd (upd (upd (upd (upd (upd anyF 0 (.int .i64 a0)) 1 (.ts .imm 3 (a1.map encRel))) 6 (.ptr 0 0 0)) 17 (.ts .imm 3 (a1.map encRel))) 18 (.int .i64 p9)) 19 (.int .i64 s54)) 48 (.ts .imm 3 (p72.map encRel))) 49 (.int .i64 p73)) 50 (.int .i64 s)), [some ⟨.box, 3, [[.int .i64 x56.a, .int .i64 x56.b, .int .i64 x56.kind]]⟩])
theorem b12_8 (a0 : Int) (a1 : (List Rel)) (p9 : Int) (s54 : Int) (p72 : List Rel) (p73 : Int) (x56 : Rel) (s : Int) (o : Ctl Int (Unit ⊕ Unit)) (h : m12_8b p72 p73 x56 s = some o) : evCL T 0 k12_8b (E12_8 a0 a1 p9 s54 p72 p73 x56 s).1 (E12_8 a0 a1 p9 s54 p72 p73 x56 s).2 = some (ctlX (E12_8 a0 a1 p9 s54 p72 p73 x56) (X12_8 a0 a1 p9 s54 p72 p73 x56) o) := by
  unfold m12_8b at h
  revert h
  generalize s = s85
  intro h
  try simp -implicitDefEqProofs only [go_sem, Nat.reduceLT, Nat.reduceAdd, Nat.reduceSub, Nat.reduceMul, Nat.reduceEqDiff, Nat.reduceBEq, Nat.reduceLeDiff, Int.reduceToNat, Int.reduceLT, Int.reduceLE, Int.reduceEq, reduceCtorEq, ↓reduceIte, E12_8, X12_8, k12_8b]
  cases b86 : (ltI s85 p73 : Bool)
  · replace h := br_f b86 h
    cases h
    simp -implicitDefEqProofs only [go_sem, Nat.reduceLT, Nat.reduceAdd, Nat.reduceSub, Nat.reduceMul, Nat.reduceEqDiff, Nat.reduceBEq, Nat.reduceLeDiff, Int.reduceToNat, Int.reduceLT, Int.reduceLE, Int.reduceEq, reduceCtorEq, ↓reduceIte, E12_8, X12_8, k12_8b, b86]
  · replace h := br_t b86 h
    obtain ⟨x87, q88, h⟩ := bnd_some h
    obtain ⟨g89, g90, g91⟩ := idx_row encRel q88
    try simp -implicitDefEqProofs only [go_sem, Nat.reduceLT, Nat.reduceAdd, Nat.reduceSub, Nat.reduceMul, Nat.reduceEqDiff, Nat.reduceBEq, Nat.reduceLeDiff, Int.reduceToNat, Int.reduceLT, Int.reduceLE, Int.reduceEq, reduceCtorEq, ↓reduceIte] at g90
    try simp -implicitDefEqProofs only [go_sem, Nat.reduceLT, Nat.reduceAdd, Nat.reduceSub, Nat.reduceMul, Nat.reduceEqDiff, Nat.reduceBEq, Nat.reduceLeDiff, Int.reduceToNat, Int.reduceLT, Int.reduceLE, Int.reduceEq, reduceCtorEq, ↓reduceIte] at g91
    obtain ⟨v95, q93, h⟩ := bnd_some h
    have w94 := e12_10 a0 a1 p9 s54 p72 p73 s85 x56 x87 v95 q93
    simp only [X12_10] at w94
    try simp -implicitDefEqProofs only [go_sem, Nat.reduceLT, Nat.reduceAdd, Nat.reduceSub, Nat.reduceMul, Nat.reduceEqDiff, Nat.reduceBEq, Nat.reduceLeDiff, Int.reduceToNat, Int.reduceLT, Int.reduceLE, Int.reduceEq, reduceCtorEq, ↓reduceIte] at w94
    try simp -implicitDefEqProofs only [go_sem, Nat.reduceLT, Nat.reduceAdd, Nat.reduceSub, Nat.reduceMul, Nat.reduceEqDiff, Nat.reduceBEq, Nat.reduceLeDiff, Int.reduceToNat, Int.reduceLT, Int.reduceLE, Int.reduceEq, reduceCtorEq, ↓reduceIte, E12_8, X12_8, k12_8b, b86, g89, g90, g91, w94]
    cases b96 : (v95 : Bool)
    · replace h := br_f b96 h
      cases h
      simp -implicitDefEqProofs only [go_sem, Nat.reduceLT, Nat.reduceAdd, Nat.reduceSub, Nat.reduceMul, Nat.reduceEqDiff, Nat.reduceBEq, Nat.reduceLeDiff, Int.reduceToNat, Int.reduceLT, Int.reduceLE, Int.reduceEq, reduceCtorEq, ↓reduceIte, E12_8, X12_8, k12_8b, b86, g89, g90, g91, w94, b96]
    · replace h := br_t b96 h
      cases h
      simp -implicitDefEqProofs only [go_sem, Nat.reduceLT, Nat.reduceAdd, Nat.reduceSub, Nat.reduceMul, Nat.reduceEqDiff, Nat.reduceBEq, Nat.reduceLeDiff, Int.reduceToNat, Int.reduceLT, Int.reduceLE, Int.reduceEq, reduceCtorEq, ↓reduceIte, E12_8, X12_8, k12_8b, b86, g89, g90, g91, w94, b96]
theorem e12_8 (a0 : Int) (a1 : (List Rel)) (p9 : Int) (s54 : Int) (p72 : List Rel) (p73 : Int) (x56 : Rel) (s : Int) (o : (Unit ⊕ Unit)) (h : loopP (m12_8b p72 p73 x56) s = some o) : evCL T 0 (.loop k12_8b) (E12_8 a0 a1 p9 s54 p72 p73 x56 s).1 (E12_8 a0 a1 p9 s54 p72 p73 x56 s).2 = some (X12_8 a0 a1 p9 s54 p72 p73 x56 o) :=
  loop_walk (E := E12_8 a0 a1 p9 s54 p72 p73 x56) (X := X12_8 a0 a1 p9 s54 p72 p73 x56) (by intro b; rcases b with b | b <;> (simp only [X12_8]; nofun)) (b12_8 a0 a1 p9 s54 p72 p73 x56) s o h
def X12_2 (a0 : Int) (a1 : (List Rel)) (p9 : Int) (o : (Unit ⊕ Unit)) : Ex × Fr × St :=
  match o with
  | .inl o => (.exit 0, frOf 68 (anyF), [])
  | .inr o => (.ret, frOf 68 (upd anyF 4 (.bool false)), [])
def E12_2 (a0 : Int) (a1 : (List Rel)) (p9 : Int) (s : Int) : Fr × St := (frOf 68 (upd (upd (upd (upd (upd anyF 0 (.int .i64 a0)) 1 (.ts .imm 3 (a1.map encRel))) 17 (.ts .imm 3 (a1.map encRel))) 18 (.int .i64 p9)) 19 (.int .i64 s)), [])
theorem b12_2 (a0 : Int) (a1 : (List Rel)) (p9 : Int) (s : Int) (o : Ctl Int (Unit ⊕ Unit)) (h : m12_2b a0 a1 p9 s = some o) : evCL T 0 k12_2b (E12_2 a0 a1 p9 s).1 (E12_2 a0 a1 p9 s).2 = some (ctlX (E12_2 a0 a1 p9) (X12_2 a0 a1 p9) o) := by
  unfold m12_2b at h
  revert h
  generalize s = s54
  intro h
  try simp -implicitDefEqProofs only [go_sem, Nat.reduceLT, Nat.reduceAdd, Nat.reduceSub, Nat.reduceMul, Nat.reduceEqDiff, Nat.reduceBEq, Nat.reduceLeDiff, Int.reduceToNat, Int.reduceLT, Int.reduceLE, Int.reduceEq, reduceCtorEq, ↓reduceIte, E12_2, X12_2, k12_2b]
  cases b55 : (ltI s54 p9 : Bool)
  · replace h := br_f b55 h
    cases h
    simp -implicitDefEqProofs only [go_sem, Nat.reduceLT, Nat.reduceAdd, Nat.reduceSub, Nat.reduceMul, Nat.reduceEqDiff, Nat.reduceBEq, Nat.reduceLeDiff, Int.reduceToNat, Int.reduceLT, Int.reduceLE, Int.reduceEq, reduceCtorEq, ↓reduceIte, E12_2, X12_2, k12_2b, b55]
  · replace h := br_t b55 h
    obtain ⟨x56, q57, h⟩ := bnd_some h
    obtain ⟨g58, g59, g60⟩ := idx_row encRel q57
    try simp -implicitDefEqProofs only [go_sem, Nat.reduceLT, Nat.reduceAdd, Nat.reduceSub, Nat.reduceMul, Nat.reduceEqDiff, Nat.reduceBEq, Nat.reduceLeDiff, Int.reduceToNat, Int.reduceLT, Int.reduceLE, Int.reduceEq, reduceCtorEq, ↓reduceIte] at g59
    try simp -implicitDefEqProofs only [go_sem, Nat.reduceLT, Nat.reduceAdd, Nat.reduceSub, Nat.reduceMul, Nat.reduceEqDiff, Nat.reduceBEq, Nat.reduceLeDiff, Int.reduceToNat, Int.reduceLT, Int.reduceLE, Int.reduceEq, reduceCtorEq, ↓reduceIte] at g60
    obtain ⟨v69, q67, h⟩ := bnd_some h
    have w68 := e12_7 a0 a1 s54 p9 x56 v69 q67
    simp only [X12_7] at w68
    try simp -implicitDefEqProofs only [go_sem, Nat.reduceLT, Nat.reduceAdd, Nat.reduceSub, Nat.reduceMul, Nat.reduceEqDiff, Nat.reduceBEq, Nat.reduceLeDiff, Int.reduceToNat, Int.reduceLT, Int.reduceLE, Int.reduceEq, reduceCtorEq, ↓reduceIte] at w68
    try simp -implicitDefEqProofs only [go_sem, Nat.reduceLT, Nat.reduceAdd, Nat.reduceSub, Nat.reduceMul, Nat.reduceEqDiff, Nat.reduceBEq, Nat.reduceLeDiff, Int.reduceToNat, Int.reduceLT, Int.reduceLE, Int.reduceEq, reduceCtorEq, ↓reduceIte, E12_2, X12_2, k12_2b, b55, g58, g59, g60, w68]
    cases b70 : (v69 : Bool)
    · replace h := br_f b70 h
      obtain ⟨g71, h⟩ := ck_some h
      try simp -implicitDefEqProofs only [go_sem, Nat.reduceLT, Nat.reduceAdd, Nat.reduceSub, Nat.reduceMul, Nat.reduceEqDiff, Nat.reduceBEq, Nat.reduceLeDiff, Int.reduceToNat, Int.reduceLT, Int.reduceLE, Int.reduceEq, reduceCtorEq, ↓reduceIte] at g71
      try simp -implicitDefEqProofs only [go_sem, Nat.reduceLT, Nat.reduceAdd, Nat.reduceSub, Nat.reduceMul, Nat.reduceEqDiff, Nat.reduceBEq, Nat.reduceLeDiff, Int.reduceToNat, Int.reduceLT, Int.reduceLE, Int.reduceEq, reduceCtorEq, ↓reduceIte, E12_2, X12_2, k12_2b, b55, g58, g59, g60, w68, b70, g71]
      obtain ⟨o, q97, h⟩ := bnd_some h
      rcases o with ⟨⟩ | ⟨⟩
      · replace h := selS_l h
        have w98 := e12_8 a0 a1 p9 s54 (a1.take s54.toNat) (↑((a1.take s54.toNat).length) : Int) x56 0 (.inl ()) q97
        simp only [E12_8, X12_8] at w98
        try simp -implicitDefEqProofs only [go_sem, Nat.reduceLT, Nat.reduceAdd, Nat.reduceSub, Nat.reduceMul, Nat.reduceEqDiff, Nat.reduceBEq, Nat.reduceLeDiff, Int.reduceToNat, Int.reduceLT, Int.reduceLE, Int.reduceEq, reduceCtorEq, ↓reduceIte] at w98
        cases h
        simp -implicitDefEqProofs only [go_sem, Nat.reduceLT, Nat.reduceAdd, Nat.reduceSub, Nat.reduceMul, Nat.reduceEqDiff, Nat.reduceBEq, Nat.reduceLeDiff, Int.reduceToNat, Int.reduceLT, Int.reduceLE, Int.reduceEq, reduceCtorEq, ↓reduceIte, E12_2, X12_2, k12_2b, b55, g58, g59, g60, w68, b70, g71, w98]
      · replace h := selS_r h
        have w98 := e12_8 a0 a1 p9 s54 (a1.take s54.toNat) (↑((a1.take s54.toNat).length) : Int) x56 0 (.inr ()) q97
        simp only [E12_8, X12_8] at w98
        try simp -implicitDefEqProofs only [go_sem, Nat.reduceLT, Nat.reduceAdd, Nat.reduceSub, Nat.reduceMul, Nat.reduceEqDiff, Nat.reduceBEq, Nat.reduceLeDiff, Int.reduceToNat, Int.reduceLT, Int.reduceLE, Int.reduceEq, reduceCtorEq, ↓reduceIte] at w98
        cases h
        simp -implicitDefEqProofs only [go_sem, Nat.reduceLT, Nat.reduceAdd, Nat.reduceSub, Nat.reduceMul, Nat.reduceEqDiff, Nat.reduceBEq, Nat.reduceLeDiff, Int.reduceToNat, Int.reduceLT, Int.reduceLE, Int.reduceEq, reduceCtorEq, ↓reduceIte, E12_2, X12_2, k12_2b, b55, g58, g59, g60, w68, b70, g71, w98]
    · replace h := br_t b70 h
      cases h
      simp -implicitDefEqProofs only [go_sem, Nat.reduceLT, Nat.reduceAdd, Nat.reduceSub, Nat.reduceMul, Nat.reduceEqDiff, Nat.reduceBEq, Nat.reduceLeDiff, Int.reduceToNat, Int.reduceLT, Int.reduceLE, Int.reduceEq, reduceCtorEq, ↓reduceIte, E12_2, X12_2, k12_2b, b55, g58, g59, g60, w68, b70]
theorem e12_2 (a0 : Int) (a1 : (List Rel)) (p9 : Int) (s : Int) (o : (Unit ⊕ Unit)) (h : loopP (m12_2b a0 a1 p9) s = some o) : evCL T 0 (.loop k12_2b) (E12_2 a0 a1 p9 s).1 (E12_2 a0 a1 p9 s).2 = some (X12_2 a0 a1 p9 o) :=
  loop_walk (E := E12_2 a0 a1 p9) (X := X12_2 a0 a1 p9) (by intro b; rcases b with b | b <;> (simp only [X12_2]; nofun)) (b12_2 a0 a1 p9) s o h
theorem call12 (args : List AV) (S : St) : evCall T (evFL T) 12 args S = lendC (evFL T 12) S (lendAll S [[0], [3]] args) := evCall0 fn12 rfl rfl args S
theorem callz12 (args : List AV) (S : St) : evCallFz T (evFL T) 12 args S = lendZ (evFL T 12) S [[0]] (lendAll S [[0], [3]] args) := evCallFz0 fn12 rfl rfl args S
attribute [go_sem] call12 callz12
theorem e12 (a0 : Int) (a1 : (List Rel)) (r : Bool) (h : m12 a0 a1 = some r) : evFL T 12 [.int .i64 a0, .ts .imm 3 (a1.map encRel)] [] = some (.bool r, []) := by
  unfold m12 at h
  rw [evFL_at fn12 (Nat.le_of_ble_eq_true rfl) rfl (.inr rfl)]
  obtain ⟨v7, q5, h⟩ := bnd_some h
  have w6 := e12_1 a0 a1 v7 q5
  simp only [X12_1] at w6
  try simp -implicitDefEqProofs only [go_sem, Nat.reduceLT, Nat.reduceAdd, Nat.reduceSub, Nat.reduceMul, Nat.reduceEqDiff, Nat.reduceBEq, Nat.reduceLeDiff, Int.reduceToNat, Int.reduceLT, Int.reduceLE, Int.reduceEq, reduceCtorEq, ↓reduceIte] at w6
  try simp -implicitDefEqProofs only [go_sem, Nat.reduceLT, Nat.reduceAdd, Nat.reduceSub, Nat.reduceMul, Nat.reduceEqDiff, Nat.reduceBEq, Nat.reduceLeDiff, Int.reduceToNat, Int.reduceLT, Int.reduceLE, Int.reduceEq, reduceCtorEq, ↓reduceIte, i12, c12, w6]
  cases b8 : (v7 : Bool)
  · replace h := br_f b8 h
    try simp -implicitDefEqProofs only [go_sem, Nat.reduceLT, Nat.reduceAdd, Nat.reduceSub, Nat.reduceMul, Nat.reduceEqDiff, Nat.reduceBEq, Nat.reduceLeDiff, Int.reduceToNat, Int.reduceLT, Int.reduceLE, Int.reduceEq, reduceCtorEq, ↓reduceIte, i12, c12, w6, b8]
    obtain ⟨o, q99, h⟩ := bnd_some h
    rcases o with ⟨⟩ | ⟨⟩
    · replace h := selS_l h
      have w100 := e12_2 a0 a1 (↑a1.length : Int) 0 (.inl ()) q99
      simp only [E12_2, X12_2] at w100
      try simp -implicitDefEqProofs only [go_sem, Nat.reduceLT, Nat.reduceAdd, Nat.reduceSub, Nat.reduceMul, Nat.reduceEqDiff, Nat.reduceBEq, Nat.reduceLeDiff, Int.reduceToNat, Int.reduceLT, Int.reduceLE, Int.reduceEq, reduceCtorEq, ↓reduceIte] at w100
      cases h
      simp -implicitDefEqProofs only [go_sem, Nat.reduceLT, Nat.reduceAdd, Nat.reduceSub, Nat.reduceMul, Nat.reduceEqDiff, Nat.reduceBEq, Nat.reduceLeDiff, Int.reduceToNat, Int.reduceLT, Int.reduceLE, Int.reduceEq, reduceCtorEq, ↓reduceIte, i12, c12, w6, b8, w100]
    · replace h := selS_r h
      have w100 := e12_2 a0 a1 (↑a1.length : Int) 0 (.inr ()) q99
      simp only [E12_2, X12_2] at w100
      try simp -implicitDefEqProofs only [go_sem, Nat.reduceLT, Nat.reduceAdd, Nat.reduceSub, Nat.reduceMul, Nat.reduceEqDiff, Nat.reduceBEq, Nat.reduceLeDiff, Int.reduceToNat, Int.reduceLT, Int.reduceLE, Int.reduceEq, reduceCtorEq, ↓reduceIte] at w100
      cases h
      simp -implicitDefEqProofs only [go_sem, Nat.reduceLT, Nat.reduceAdd, Nat.reduceSub, Nat.reduceMul, Nat.reduceEqDiff, Nat.reduceBEq, Nat.reduceLeDiff, Int.reduceToNat, Int.reduceLT, Int.reduceLE, Int.reduceEq, reduceCtorEq, ↓reduceIte, i12, c12, w6, b8, w100]
  · replace h := br_t b8 h
    cases h
    simp -implicitDefEqProofs only [go_sem, Nat.reduceLT, Nat.reduceAdd, Nat.reduceSub, Nat.reduceMul, Nat.reduceEqDiff, Nat.reduceBEq, Nat.reduceLeDiff, Int.reduceToNat, Int.reduceLT, Int.reduceLE, Int.reduceEq, reduceCtorEq, ↓reduceIte, i12, c12, w6, b8]
-- f53 spec.l11Row
def X53_3 (a0 : Int) (a1 : (List Rel)) (a2 : (List Int)) (s28 : Int) (x30 : Int) (p1 : Int) (o : Bool) : Ex × Fr × St :=
  (.normal, frOf 49 (upd (upd (upd (upd (upd (upd (upd anyF 0 (.int .i64 a0)) 1 (.ts .imm 3 (a1.map encRel))) 2 (.ts .imm 1 (a2.map encInt))) 9 (.ts .imm 1 (a2.map encInt))) 10 (.int .i64 p1)) 11 (.int .i64 s28)) 44 (.bool o)), [])
theorem e53_3 (a0 : Int) (a1 : (List Rel)) (a2 : (List Int)) (s28 : Int) (x30 : Int) (p1 : Int) (o : Bool) (h : m53_3 a0 a1 a2 s28 x30 = some o) : evCL T 0 k53_3 (frOf 49 (upd (upd (upd (upd (upd (upd (upd (upd anyF 0 (.int .i64 a0)) 1 (.ts .imm 3 (a1.map encRel))) 2 (.ts .imm 1 (a2.map encInt))) 7 (.int .i64 s28)) 8 (.int .i64 x30)) 9 (.ts .imm 1 (a2.map encInt))) 10 (.int .i64 p1)) 11 (.int .i64 s28))) [] = some (X53_3 a0 a1 a2 s28 x30 p1 o) := by
  unfold m53_3 at h
  try simp -implicitDefEqProofs only [go_sem, Nat.reduceLT, Nat.reduceAdd, Nat.reduceSub, Nat.reduceMul, Nat.reduceEqDiff, Nat.reduceBEq, Nat.reduceLeDiff, Int.reduceToNat, Int.reduceLT, Int.reduceLE, Int.reduceEq, reduceCtorEq, ↓reduceIte, X53_3, k53_3]
  cases b35 : (ltI x30 0 : Bool)
  · replace h := br_f b35 h
    try simp -implicitDefEqProofs only [go_sem, Nat.reduceLT, Nat.reduceAdd, Nat.reduceSub, Nat.reduceMul, Nat.reduceEqDiff, Nat.reduceBEq, Nat.reduceLeDiff, Int.reduceToNat, Int.reduceLT, Int.reduceLE, Int.reduceEq, reduceCtorEq, ↓reduceIte, X53_3, k53_3, b35]
    cases b36 : (ltI a0 x30 : Bool)
    · replace h := br_f b36 h
      obtain ⟨g37, h⟩ := ck_some h
      try simp -implicitDefEqProofs only [go_sem, Nat.reduceLT, Nat.reduceAdd, Nat.reduceSub, Nat.reduceMul, Nat.reduceEqDiff, Nat.reduceBEq, Nat.reduceLeDiff, Int.reduceToNat, Int.reduceLT, Int.reduceLE, Int.reduceEq, reduceCtorEq, ↓reduceIte] at g37
      obtain ⟨r40, q38, h⟩ := bnd_some h
      have w39 := e47 (a2.take s28.toNat) x30 r40 q38
      try simp -implicitDefEqProofs only [go_sem, Nat.reduceLT, Nat.reduceAdd, Nat.reduceSub, Nat.reduceMul, Nat.reduceEqDiff, Nat.reduceBEq, Nat.reduceLeDiff, Int.reduceToNat, Int.reduceLT, Int.reduceLE, Int.reduceEq, reduceCtorEq, ↓reduceIte] at w39
      try simp -implicitDefEqProofs only [go_sem, Nat.reduceLT, Nat.reduceAdd, Nat.reduceSub, Nat.reduceMul, Nat.reduceEqDiff, Nat.reduceBEq, Nat.reduceLeDiff, Int.reduceToNat, Int.reduceLT, Int.reduceLE, Int.reduceEq, reduceCtorEq, ↓reduceIte, X53_3, k53_3, b35, b36, g37, w39]
      cases b41 : (r40 : Bool)
      · replace h := br_f b41 h
        try simp -implicitDefEqProofs only [go_sem, Nat.reduceLT, Nat.reduceAdd, Nat.reduceSub, Nat.reduceMul, Nat.reduceEqDiff, Nat.reduceBEq, Nat.reduceLeDiff, Int.reduceToNat, Int.reduceLT, Int.reduceLE, Int.reduceEq, reduceCtorEq, ↓reduceIte, X53_3, k53_3, b35, b36, g37, w39, b41]
        cases b42 : (ltI 0 s28 : Bool)
        · replace h := br_f b42 h
          cases h
          simp -implicitDefEqProofs only [go_sem, Nat.reduceLT, Nat.reduceAdd, Nat.reduceSub, Nat.reduceMul, Nat.reduceEqDiff, Nat.reduceBEq, Nat.reduceLeDiff, Int.reduceToNat, Int.reduceLT, Int.reduceLE, Int.reduceEq, reduceCtorEq, ↓reduceIte, X53_3, k53_3, b35, b36, g37, w39, b41, b42]
        · replace h := br_t b42 h
          obtain ⟨x43, q44, h⟩ := bnd_some h
          obtain ⟨g45, g46, g47⟩ := idx_row encInt q44
          try simp -implicitDefEqProofs only [go_sem, Nat.reduceLT, Nat.reduceAdd, Nat.reduceSub, Nat.reduceMul, Nat.reduceEqDiff, Nat.reduceBEq, Nat.reduceLeDiff, Int.reduceToNat, Int.reduceLT, Int.reduceLE, Int.reduceEq, reduceCtorEq, ↓reduceIte] at g46
          try simp -implicitDefEqProofs only [go_sem, Nat.reduceLT, Nat.reduceAdd, Nat.reduceSub, Nat.reduceMul, Nat.reduceEqDiff, Nat.reduceBEq, Nat.reduceLeDiff, Int.reduceToNat, Int.reduceLT, Int.reduceLE, Int.reduceEq, reduceCtorEq, ↓reduceIte] at g47
          obtain ⟨r50, q48, h⟩ := bnd_some h
          have w49 := e45 a1 x43 x30 r50 q48
          try simp -implicitDefEqProofs only [go_sem, Nat.reduceLT, Nat.reduceAdd, Nat.reduceSub, Nat.reduceMul, Nat.reduceEqDiff, Nat.reduceBEq, Nat.reduceLeDiff, Int.reduceToNat, Int.reduceLT, Int.reduceLE, Int.reduceEq, reduceCtorEq, ↓reduceIte] at w49
          cases h
          simp -implicitDefEqProofs only [go_sem, Nat.reduceLT, Nat.reduceAdd, Nat.reduceSub, Nat.reduceMul, Nat.reduceEqDiff, Nat.reduceBEq, Nat.reduceLeDiff, Int.reduceToNat, Int.reduceLT, Int.reduceLE, Int.reduceEq, reduceCtorEq, ↓reduceIte, X53_3, k53_3, b35, b36, g37, w39, b41, b42, g45, g46, g47, w49]
      · replace h := br_t b41 h
        cases h
        simp -implicitDefEqProofs only [go_sem, Nat.reduceLT, Nat.reduceAdd, Nat.reduceSub, Nat.reduceMul, Nat.reduceEqDiff, Nat.reduceBEq, Nat.reduceLeDiff, Int.reduceToNat, Int.reduceLT, Int.reduceLE, Int.reduceEq, reduceCtorEq, ↓reduceIte, X53_3, k53_3, b35, b36, g37, w39, b41]
    · replace h := br_t b36 h
      cases h
      simp -implicitDefEqProofs only [go_sem, Nat.reduceLT, Nat.reduceAdd, Nat.reduceSub, Nat.reduceMul, Nat.reduceEqDiff, Nat.reduceBEq, Nat.reduceLeDiff, Int.reduceToNat, Int.reduceLT, Int.reduceLE, Int.reduceEq, reduceCtorEq, ↓reduceIte, X53_3, k53_3, b35, b36]
  · replace h := br_t b35 h
    cases h
    simp -implicitDefEqProofs only [go_sem, Nat.reduceLT, Nat.reduceAdd, Nat.reduceSub, Nat.reduceMul, Nat.reduceEqDiff, Nat.reduceBEq, Nat.reduceLeDiff, Int.reduceToNat, Int.reduceLT, Int.reduceLE, Int.reduceEq, reduceCtorEq, ↓reduceIte, X53_3, k53_3, b35]
def X53_1 (a0 : Int) (a1 : (List Rel)) (a2 : (List Int)) (p1 : Int) (o : (Unit ⊕ Unit)) : Ex × Fr × St :=
  match o with
  | .inl o => (.exit 0, frOf 49 (upd anyF 2 (.ts .imm 1 (a2.map encInt))), [])
  | .inr o => (.ret, frOf 49 (upd anyF 6 (.bool false)), [])
def E53_1 (a0 : Int) (a1 : (List Rel)) (a2 : (List Int)) (p1 : Int) (s : Int) : Fr × St := (frOf 49 (upd (upd (upd (upd (upd (upd anyF 0 (.int .i64 a0)) 1 (.ts .imm 3 (a1.map encRel))) 2 (.ts .imm 1 (a2.map encInt))) 9 (.ts .imm 1 (a2.map encInt))) 10 (.int .i64 p1)) 11 (.int .i64 s)), [])
theorem b53_1 (a0 : Int) (a1 : (List Rel)) (a2 : (List Int)) (p1 : Int) (s : Int) (o : Ctl Int (Unit ⊕ Unit)) (h : m53_1b a0 a1 a2 p1 s = some o) : evCL T 0 k53_1b (E53_1 a0 a1 a2 p1 s).1 (E53_1 a0 a1 a2 p1 s).2 = some (ctlX (E53_1 a0 a1 a2 p1) (X53_1 a0 a1 a2 p1) o) := by
  unfold m53_1b at h
  revert h
  generalize s = s28
  intro h
  try simp -implicitDefEqProofs only [go_sem, Nat.reduceLT, Nat.reduceAdd, Nat.reduceSub, Nat.reduceMul, Nat.reduceEqDiff, Nat.reduceBEq, Nat.reduceLeDiff, Int.reduceToNat, Int.reduceLT, Int.reduceLE, Int.reduceEq, reduceCtorEq, ↓reduceIte, E53_1, X53_1, k53_1b]
  cases b29 : (ltI s28 p1 : Bool)
  · replace h := br_f b29 h
    cases h
    simp -implicitDefEqProofs only [go_sem, Nat.reduceLT, Nat.reduceAdd, Nat.reduceSub, Nat.reduceMul, Nat.reduceEqDiff, Nat.reduceBEq, Nat.reduceLeDiff, Int.reduceToNat, Int.reduceLT, Int.reduceLE, Int.reduceEq, reduceCtorEq, ↓reduceIte, E53_1, X53_1, k53_1b, b29]
  · replace h := br_t b29 h
    obtain ⟨x30, q31, h⟩ := bnd_some h
    obtain ⟨g32, g33, g34⟩ := idx_row encInt q31
    try simp -implicitDefEqProofs only [go_sem, Nat.reduceLT, Nat.reduceAdd, Nat.reduceSub, Nat.reduceMul, Nat.reduceEqDiff, Nat.reduceBEq, Nat.reduceLeDiff, Int.reduceToNat, Int.reduceLT, Int.reduceLE, Int.reduceEq, reduceCtorEq, ↓reduceIte] at g33
    try simp -implicitDefEqProofs only [go_sem, Nat.reduceLT, Nat.reduceAdd, Nat.reduceSub, Nat.reduceMul, Nat.reduceEqDiff, Nat.reduceBEq, Nat.reduceLeDiff, Int.reduceToNat, Int.reduceLT, Int.reduceLE, Int.reduceEq, reduceCtorEq, ↓reduceIte] at g34
    obtain ⟨v53, q51, h⟩ := bnd_some h
    have w52 := e53_3 a0 a1 a2 s28 x30 p1 v53 q51
    simp only [X53_3] at w52
    try simp -implicitDefEqProofs only [go_sem, Nat.reduceLT, Nat.reduceAdd, Nat.reduceSub, Nat.reduceMul, Nat.reduceEqDiff, Nat.reduceBEq, Nat.reduceLeDiff, Int.reduceToNat, Int.reduceLT, Int.reduceLE, Int.reduceEq, reduceCtorEq, ↓reduceIte] at w52
    try simp -implicitDefEqProofs only [go_sem, Nat.reduceLT, Nat.reduceAdd, Nat.reduceSub, Nat.reduceMul, Nat.reduceEqDiff, Nat.reduceBEq, Nat.reduceLeDiff, Int.reduceToNat, Int.reduceLT, Int.reduceLE, Int.reduceEq, reduceCtorEq, ↓reduceIte, E53_1, X53_1, k53_1b, b29, g32, g33, g34, w52]
    cases b54 : (v53 : Bool)
    · replace h := br_f b54 h
      cases h
      simp -implicitDefEqProofs only [go_sem, Nat.reduceLT, Nat.reduceAdd, Nat.reduceSub, Nat.reduceMul, Nat.reduceEqDiff, Nat.reduceBEq, Nat.reduceLeDiff, Int.reduceToNat, Int.reduceLT, Int.reduceLE, Int.reduceEq, reduceCtorEq, ↓reduceIte, E53_1, X53_1, k53_1b, b29, g32, g33, g34, w52, b54]
    · replace h := br_t b54 h
      cases h
      simp -implicitDefEqProofs only [go_sem, Nat.reduceLT, Nat.reduceAdd, Nat.reduceSub, Nat.reduceMul, Nat.reduceEqDiff, Nat.reduceBEq, Nat.reduceLeDiff, Int.reduceToNat, Int.reduceLT, Int.reduceLE, Int.reduceEq, reduceCtorEq, ↓reduceIte, E53_1, X53_1, k53_1b, b29, g32, g33, g34, w52, b54]
theorem e53_1 (a0 : Int) (a1 : (List Rel)) (a2 : (List Int)) (p1 : Int) (s : Int) (o : (Unit ⊕ Unit)) (h : loopP (m53_1b a0 a1 a2 p1) s = some o) : evCL T 0 (.loop k53_1b) (E53_1 a0 a1 a2 p1 s).1 (E53_1 a0 a1 a2 p1 s).2 = some (X53_1 a0 a1 a2 p1 o) :=
  loop_walk (E := E53_1 a0 a1 a2 p1) (X := X53_1 a0 a1 a2 p1) (by intro b; rcases b with b | b <;> (simp only [X53_1]; nofun)) (b53_1 a0 a1 a2 p1) s o h
theorem call53 (args : List AV) (S : St) : evCall T (evFL T) 53 args S = lendC (evFL T 53) S (lendAll S [[0], [3], [1]] args) := evCall0 fn53 rfl rfl args S
theorem callz53 (args : List AV) (S : St) : evCallFz T (evFL T) 53 args S = lendZ (evFL T 53) S [[0]] (lendAll S [[0], [3], [1]] args) := evCallFz0 fn53 rfl rfl args S
attribute [go_sem] call53 callz53
theorem e53 (a0 : Int) (a1 : (List Rel)) (a2 : (List Int)) (r : Bool) (h : m53 a0 a1 a2 = some r) : evFL T 53 [.int .i64 a0, .ts .imm 3 (a1.map encRel), .ts .imm 1 (a2.map encInt)] [] = some (.bool r, []) := by
  unfold m53 at h
  rw [evFL_at fn53 (Nat.le_of_ble_eq_true rfl) rfl (.inr rfl)]
  try simp -implicitDefEqProofs only [go_sem, Nat.reduceLT, Nat.reduceAdd, Nat.reduceSub, Nat.reduceMul, Nat.reduceEqDiff, Nat.reduceBEq, Nat.reduceLeDiff, Int.reduceToNat, Int.reduceLT, Int.reduceLE, Int.reduceEq, reduceCtorEq, ↓reduceIte, i53, c53]
  obtain ⟨o, q55, h⟩ := bnd_some h
  rcases o with ⟨⟩ | ⟨⟩
  · replace h := selS_l h
    have w56 := e53_1 a0 a1 a2 (↑a2.length : Int) 0 (.inl ()) q55
    simp only [E53_1, X53_1] at w56
    try simp -implicitDefEqProofs only [go_sem, Nat.reduceLT, Nat.reduceAdd, Nat.reduceSub, Nat.reduceMul, Nat.reduceEqDiff, Nat.reduceBEq, Nat.reduceLeDiff, Int.reduceToNat, Int.reduceLT, Int.reduceLE, Int.reduceEq, reduceCtorEq, ↓reduceIte] at w56
    obtain ⟨r59, q57, h⟩ := bnd_some h
    have w58 := e39 (↑a2.length : Int) 2 6 r59 q57
    try simp -implicitDefEqProofs only [go_sem, Nat.reduceLT, Nat.reduceAdd, Nat.reduceSub, Nat.reduceMul, Nat.reduceEqDiff, Nat.reduceBEq, Nat.reduceLeDiff, Int.reduceToNat, Int.reduceLT, Int.reduceLE, Int.reduceEq, reduceCtorEq, ↓reduceIte] at w58
    cases h
    simp -implicitDefEqProofs only [go_sem, Nat.reduceLT, Nat.reduceAdd, Nat.reduceSub, Nat.reduceMul, Nat.reduceEqDiff, Nat.reduceBEq, Nat.reduceLeDiff, Int.reduceToNat, Int.reduceLT, Int.reduceLE, Int.reduceEq, reduceCtorEq, ↓reduceIte, i53, c53, w56, w58]
  · replace h := selS_r h
    have w56 := e53_1 a0 a1 a2 (↑a2.length : Int) 0 (.inr ()) q55
    simp only [E53_1, X53_1] at w56
    try simp -implicitDefEqProofs only [go_sem, Nat.reduceLT, Nat.reduceAdd, Nat.reduceSub, Nat.reduceMul, Nat.reduceEqDiff, Nat.reduceBEq, Nat.reduceLeDiff, Int.reduceToNat, Int.reduceLT, Int.reduceLE, Int.reduceEq, reduceCtorEq, ↓reduceIte] at w56
    cases h
    simp -implicitDefEqProofs only [go_sem, Nat.reduceLT, Nat.reduceAdd, Nat.reduceSub, Nat.reduceMul, Nat.reduceEqDiff, Nat.reduceBEq, Nat.reduceLeDiff, Int.reduceToNat, Int.reduceLT, Int.reduceLE, Int.reduceEq, reduceCtorEq, ↓reduceIte, i53, c53, w56]
-- f54 spec.l11Free
def X54_4 (a0 : (List Rel)) (a1 : (List Int)) (s20 : Bool) (s21 : Int) (r35 : Int) (o : (Bool × Bool)) : Ex × Fr × St :=
  (.normal, frOf 35 (upd (upd (upd (upd (upd (upd anyF 0 (.ts .imm 3 (a0.map encRel))) 1 (.ts .imm 1 (a1.map encInt))) 5 (.bool o.1)) 6 (.int .i64 s21)) 7 (.int .i64 r35)) 29 (.bool o.2)), [])
theorem e54_4 (a0 : (List Rel)) (a1 : (List Int)) (s20 : Bool) (s21 : Int) (r35 : Int) (o : (Bool × Bool)) (h : m54_4 s20 r35 = some o) : evCL T 0 k54_4 (frOf 35 (upd (upd (upd (upd (upd anyF 0 (.ts .imm 3 (a0.map encRel))) 1 (.ts .imm 1 (a1.map encInt))) 5 (.bool s20)) 6 (.int .i64 s21)) 7 (.int .i64 r35))) [] = some (X54_4 a0 a1 s20 s21 r35 o) := by
  unfold m54_4 at h
  try simp -implicitDefEqProofs only [go_sem, Nat.reduceLT, Nat.reduceAdd, Nat.reduceSub, Nat.reduceMul, Nat.reduceEqDiff, Nat.reduceBEq, Nat.reduceLeDiff, Int.reduceToNat, Int.reduceLT, Int.reduceLE, Int.reduceEq, reduceCtorEq, ↓reduceIte, X54_4, k54_4]
  cases b36 : (s20 : Bool)
  · replace h := br_f b36 h
    cases h
    simp -implicitDefEqProofs only [go_sem, Nat.reduceLT, Nat.reduceAdd, Nat.reduceSub, Nat.reduceMul, Nat.reduceEqDiff, Nat.reduceBEq, Nat.reduceLeDiff, Int.reduceToNat, Int.reduceLT, Int.reduceLE, Int.reduceEq, reduceCtorEq, ↓reduceIte, X54_4, k54_4, b36]
  · replace h := br_t b36 h
    cases h
    simp -implicitDefEqProofs only [go_sem, Nat.reduceLT, Nat.reduceAdd, Nat.reduceSub, Nat.reduceMul, Nat.reduceEqDiff, Nat.reduceBEq, Nat.reduceLeDiff, Int.reduceToNat, Int.reduceLT, Int.reduceLE, Int.reduceEq, reduceCtorEq, ↓reduceIte, X54_4, k54_4, b36]
def X54_5 (a0 : (List Rel)) (a1 : (List Int)) (v39 : Bool) (s21 : Int) (r35 : Int) (o : Bool) : Ex × Fr × St :=
  (.normal, frOf 35 (upd (upd (upd (upd anyF 0 (.ts .imm 3 (a0.map encRel))) 1 (.ts .imm 1 (a1.map encInt))) 5 (.bool o)) 6 (.int .i64 s21)), [])
theorem e54_5 (a0 : (List Rel)) (a1 : (List Int)) (v39 : Bool) (s21 : Int) (r35 : Int) (o : Bool) (h : m54_5 v39 r35 = some o) : evCL T 0 k54_5 (frOf 35 (upd (upd (upd (upd (upd anyF 0 (.ts .imm 3 (a0.map encRel))) 1 (.ts .imm 1 (a1.map encInt))) 5 (.bool v39)) 6 (.int .i64 s21)) 7 (.int .i64 r35))) [] = some (X54_5 a0 a1 v39 s21 r35 o) := by
  unfold m54_5 at h
  try simp -implicitDefEqProofs only [go_sem, Nat.reduceLT, Nat.reduceAdd, Nat.reduceSub, Nat.reduceMul, Nat.reduceEqDiff, Nat.reduceBEq, Nat.reduceLeDiff, Int.reduceToNat, Int.reduceLT, Int.reduceLE, Int.reduceEq, reduceCtorEq, ↓reduceIte, X54_5, k54_5]
  cases b42 : (v39 : Bool)
  · replace h := br_f b42 h
    cases h
    simp -implicitDefEqProofs only [go_sem, Nat.reduceLT, Nat.reduceAdd, Nat.reduceSub, Nat.reduceMul, Nat.reduceEqDiff, Nat.reduceBEq, Nat.reduceLeDiff, Int.reduceToNat, Int.reduceLT, Int.reduceLE, Int.reduceEq, reduceCtorEq, ↓reduceIte, X54_5, k54_5, b42]
  · replace h := br_t b42 h
    cases h
    simp -implicitDefEqProofs only [go_sem, Nat.reduceLT, Nat.reduceAdd, Nat.reduceSub, Nat.reduceMul, Nat.reduceEqDiff, Nat.reduceBEq, Nat.reduceLeDiff, Int.reduceToNat, Int.reduceLT, Int.reduceLE, Int.reduceEq, reduceCtorEq, ↓reduceIte, X54_5, k54_5, b42]
def X54_1 (a0 : (List Rel)) (a1 : (List Int)) (o : (Unit ⊕ Unit)) : Ex × Fr × St :=
  match o with
  | .inl o => (.exit 0, frOf 35 (anyF), [])
  | .inr o => (.ret, frOf 35 (upd anyF 4 (.bool false)), [])
def E54_1 (a0 : (List Rel)) (a1 : (List Int)) (s : (Bool × Int)) : Fr × St := (frOf 35 (upd (upd (upd (upd anyF 0 (.ts .imm 3 (a0.map encRel))) 1 (.ts .imm 1 (a1.map encInt))) 5 (.bool s.1)) 6 (.int .i64 s.2)), [])
theorem b54_1 (a0 : (List Rel)) (a1 : (List Int)) (s : (Bool × Int)) (o : Ctl (Bool × Int) (Unit ⊕ Unit)) (h : m54_1b a0 a1 s = some o) : evCL T 0 k54_1b (E54_1 a0 a1 s).1 (E54_1 a0 a1 s).2 = some (ctlX (E54_1 a0 a1) (X54_1 a0 a1) o) := by
  unfold m54_1b at h
  obtain ⟨s20, s21⟩ := s
  replace h := sel2_some h
  try simp -implicitDefEqProofs only [go_sem, Nat.reduceLT, Nat.reduceAdd, Nat.reduceSub, Nat.reduceMul, Nat.reduceEqDiff, Nat.reduceBEq, Nat.reduceLeDiff, Int.reduceToNat, Int.reduceLT, Int.reduceLE, Int.reduceEq, reduceCtorEq, ↓reduceIte, E54_1, X54_1, k54_1b]
  cases b22 : (ltI s21 (↑a1.length : Int) : Bool)
  · replace h := br_f b22 h
    cases h
    simp -implicitDefEqProofs only [go_sem, Nat.reduceLT, Nat.reduceAdd, Nat.reduceSub, Nat.reduceMul, Nat.reduceEqDiff, Nat.reduceBEq, Nat.reduceLeDiff, Int.reduceToNat, Int.reduceLT, Int.reduceLE, Int.reduceEq, reduceCtorEq, ↓reduceIte, E54_1, X54_1, k54_1b, b22]
  · replace h := br_t b22 h
    obtain ⟨x23, q24, h⟩ := bnd_some h
    obtain ⟨g25, g26, g27⟩ := idx_row encInt q24
    try simp -implicitDefEqProofs only [go_sem, Nat.reduceLT, Nat.reduceAdd, Nat.reduceSub, Nat.reduceMul, Nat.reduceEqDiff, Nat.reduceBEq, Nat.reduceLeDiff, Int.reduceToNat, Int.reduceLT, Int.reduceLE, Int.reduceEq, reduceCtorEq, ↓reduceIte] at g26
    try simp -implicitDefEqProofs only [go_sem, Nat.reduceLT, Nat.reduceAdd, Nat.reduceSub, Nat.reduceMul, Nat.reduceEqDiff, Nat.reduceBEq, Nat.reduceLeDiff, Int.reduceToNat, Int.reduceLT, Int.reduceLE, Int.reduceEq, reduceCtorEq, ↓reduceIte] at g27
    obtain ⟨x28, q29, h⟩ := bnd_some h
    obtain ⟨g30, g31, g32⟩ := idx_row encInt q29
    try simp -implicitDefEqProofs only [go_sem, Nat.reduceLT, Nat.reduceAdd, Nat.reduceSub, Nat.reduceMul, Nat.reduceEqDiff, Nat.reduceBEq, Nat.reduceLeDiff, Int.reduceToNat, Int.reduceLT, Int.reduceLE, Int.reduceEq, reduceCtorEq, ↓reduceIte] at g31
    try simp -implicitDefEqProofs only [go_sem, Nat.reduceLT, Nat.reduceAdd, Nat.reduceSub, Nat.reduceMul, Nat.reduceEqDiff, Nat.reduceBEq, Nat.reduceLeDiff, Int.reduceToNat, Int.reduceLT, Int.reduceLE, Int.reduceEq, reduceCtorEq, ↓reduceIte] at g32
    obtain ⟨r35, q33, h⟩ := bnd_some h
    have w34 := e45 a0 x23 x28 r35 q33
    try simp -implicitDefEqProofs only [go_sem, Nat.reduceLT, Nat.reduceAdd, Nat.reduceSub, Nat.reduceMul, Nat.reduceEqDiff, Nat.reduceBEq, Nat.reduceLeDiff, Int.reduceToNat, Int.reduceLT, Int.reduceLE, Int.reduceEq, reduceCtorEq, ↓reduceIte] at w34
    obtain ⟨⟨v39, v40⟩, q37, h⟩ := bnd_some h
    replace h := sel2_some h
    have w38 := e54_4 a0 a1 s20 s21 r35 (v39, v40) q37
    simp only [X54_4] at w38
    try simp -implicitDefEqProofs only [go_sem, Nat.reduceLT, Nat.reduceAdd, Nat.reduceSub, Nat.reduceMul, Nat.reduceEqDiff, Nat.reduceBEq, Nat.reduceLeDiff, Int.reduceToNat, Int.reduceLT, Int.reduceLE, Int.reduceEq, reduceCtorEq, ↓reduceIte] at w38
    try simp -implicitDefEqProofs only [go_sem, Nat.reduceLT, Nat.reduceAdd, Nat.reduceSub, Nat.reduceMul, Nat.reduceEqDiff, Nat.reduceBEq, Nat.reduceLeDiff, Int.reduceToNat, Int.reduceLT, Int.reduceLE, Int.reduceEq, reduceCtorEq, ↓reduceIte, E54_1, X54_1, k54_1b, b22, g25, g26, g27, g30, g31, g32, w34, w38]
    cases b41 : (v40 : Bool)
    · replace h := br_f b41 h
      obtain ⟨v45, q43, h⟩ := bnd_some h
      have w44 := e54_5 a0 a1 v39 s21 r35 v45 q43
      simp only [X54_5] at w44
      try simp -implicitDefEqProofs only [go_sem, Nat.reduceLT, Nat.reduceAdd, Nat.reduceSub, Nat.reduceMul, Nat.reduceEqDiff, Nat.reduceBEq, Nat.reduceLeDiff, Int.reduceToNat, Int.reduceLT, Int.reduceLE, Int.reduceEq, reduceCtorEq, ↓reduceIte] at w44
      cases h
      simp -implicitDefEqProofs only [go_sem, Nat.reduceLT, Nat.reduceAdd, Nat.reduceSub, Nat.reduceMul, Nat.reduceEqDiff, Nat.reduceBEq, Nat.reduceLeDiff, Int.reduceToNat, Int.reduceLT, Int.reduceLE, Int.reduceEq, reduceCtorEq, ↓reduceIte, E54_1, X54_1, k54_1b, b22, g25, g26, g27, g30, g31, g32, w34, w38, b41, w44]
    · replace h := br_t b41 h
      cases h
      simp -implicitDefEqProofs only [go_sem, Nat.reduceLT, Nat.reduceAdd, Nat.reduceSub, Nat.reduceMul, Nat.reduceEqDiff, Nat.reduceBEq, Nat.reduceLeDiff, Int.reduceToNat, Int.reduceLT, Int.reduceLE, Int.reduceEq, reduceCtorEq, ↓reduceIte, E54_1, X54_1, k54_1b, b22, g25, g26, g27, g30, g31, g32, w34, w38, b41]
theorem e54_1 (a0 : (List Rel)) (a1 : (List Int)) (s : (Bool × Int)) (o : (Unit ⊕ Unit)) (h : loopP (m54_1b a0 a1) s = some o) : evCL T 0 (.loop k54_1b) (E54_1 a0 a1 s).1 (E54_1 a0 a1 s).2 = some (X54_1 a0 a1 o) :=
  loop_walk (E := E54_1 a0 a1) (X := X54_1 a0 a1) (by intro b; rcases b with b | b <;> (simp only [X54_1]; nofun)) (b54_1 a0 a1) s o h
theorem call54 (args : List AV) (S : St) : evCall T (evFL T) 54 args S = lendC (evFL T 54) S (lendAll S [[3], [1]] args) := evCall0 fn54 rfl rfl args S
theorem callz54 (args : List AV) (S : St) : evCallFz T (evFL T) 54 args S = lendZ (evFL T 54) S [[0]] (lendAll S [[3], [1]] args) := evCallFz0 fn54 rfl rfl args S
attribute [go_sem] call54 callz54
theorem e54 (a0 : (List Rel)) (a1 : (List Int)) (r : Bool) (h : m54 a0 a1 = some r) : evFL T 54 [.ts .imm 3 (a0.map encRel), .ts .imm 1 (a1.map encInt)] [] = some (.bool r, []) := by
  unfold m54 at h
  rw [evFL_at fn54 (Nat.le_of_ble_eq_true rfl) rfl (.inr rfl)]
  try simp -implicitDefEqProofs only [go_sem, Nat.reduceLT, Nat.reduceAdd, Nat.reduceSub, Nat.reduceMul, Nat.reduceEqDiff, Nat.reduceBEq, Nat.reduceLeDiff, Int.reduceToNat, Int.reduceLT, Int.reduceLE, Int.reduceEq, reduceCtorEq, ↓reduceIte, i54, c54]
  obtain ⟨o, q46, h⟩ := bnd_some h
  rcases o with ⟨⟩ | ⟨⟩
  · replace h := selS_l h
    have w47 := e54_1 a0 a1 (false, 1) (.inl ()) q46
    simp only [E54_1, X54_1] at w47
    try simp -implicitDefEqProofs only [go_sem, Nat.reduceLT, Nat.reduceAdd, Nat.reduceSub, Nat.reduceMul, Nat.reduceEqDiff, Nat.reduceBEq, Nat.reduceLeDiff, Int.reduceToNat, Int.reduceLT, Int.reduceLE, Int.reduceEq, reduceCtorEq, ↓reduceIte] at w47
    cases h
    simp -implicitDefEqProofs only [go_sem, Nat.reduceLT, Nat.reduceAdd, Nat.reduceSub, Nat.reduceMul, Nat.reduceEqDiff, Nat.reduceBEq, Nat.reduceLeDiff, Int.reduceToNat, Int.reduceLT, Int.reduceLE, Int.reduceEq, reduceCtorEq, ↓reduceIte, i54, c54, w47]
  · replace h := selS_r h
    have w47 := e54_1 a0 a1 (false, 1) (.inr ()) q46
    simp only [E54_1, X54_1] at w47
    try simp -implicitDefEqProofs only [go_sem, Nat.reduceLT, Nat.reduceAdd, Nat.reduceSub, Nat.reduceMul, Nat.reduceEqDiff, Nat.reduceBEq, Nat.reduceLeDiff, Int.reduceToNat, Int.reduceLT, Int.reduceLE, Int.reduceEq, reduceCtorEq, ↓reduceIte] at w47
    cases h
    simp -implicitDefEqProofs only [go_sem, Nat.reduceLT, Nat.reduceAdd, Nat.reduceSub, Nat.reduceMul, Nat.reduceEqDiff, Nat.reduceBEq, Nat.reduceLeDiff, Int.reduceToNat, Int.reduceLT, Int.reduceLE, Int.reduceEq, reduceCtorEq, ↓reduceIte, i54, c54, w47]
-- f22 spec.IsValleyFree
def X22_1 (a0 : Int) (a1 : (List Rel)) (a2 : (List Int)) (o : Bool) : Ex × Fr × St :=
  (.normal, frOf 22 (upd (upd (upd anyF 1 (.ts .imm 3 (a1.map encRel))) 2 (.ts .imm 1 (a2.map encInt))) 18 (.bool o)), [])
theorem e22_1 (a0 : Int) (a1 : (List Rel)) (a2 : (List Int)) (o : Bool) (h : m22_1 a0 a1 a2 = some o) : evCL T 0 k22_1 (frOf 22 (upd (upd (upd anyF 0 (.int .i64 a0)) 1 (.ts .imm 3 (a1.map encRel))) 2 (.ts .imm 1 (a2.map encInt)))) [] = some (X22_1 a0 a1 a2 o) := by
  unfold m22_1 at h
  obtain ⟨r3, q1, h⟩ := bnd_some h
  have w2 := e12 a0 a1 r3 q1
  try simp -implicitDefEqProofs only [go_sem, Nat.reduceLT, Nat.reduceAdd, Nat.reduceSub, Nat.reduceMul, Nat.reduceEqDiff, Nat.reduceBEq, Nat.reduceLeDiff, Int.reduceToNat, Int.reduceLT, Int.reduceLE, Int.reduceEq, reduceCtorEq, ↓reduceIte] at w2
  try simp -implicitDefEqProofs only [go_sem, Nat.reduceLT, Nat.reduceAdd, Nat.reduceSub, Nat.reduceMul, Nat.reduceEqDiff, Nat.reduceBEq, Nat.reduceLeDiff, Int.reduceToNat, Int.reduceLT, Int.reduceLE, Int.reduceEq, reduceCtorEq, ↓reduceIte, X22_1, k22_1, w2]
  cases b4 : (r3 : Bool)
  · replace h := br_f b4 h
    cases h
    simp -implicitDefEqProofs only [go_sem, Nat.reduceLT, Nat.reduceAdd, Nat.reduceSub, Nat.reduceMul, Nat.reduceEqDiff, Nat.reduceBEq, Nat.reduceLeDiff, Int.reduceToNat, Int.reduceLT, Int.reduceLE, Int.reduceEq, reduceCtorEq, ↓reduceIte, X22_1, k22_1, w2, b4]
  · replace h := br_t b4 h
    obtain ⟨r7, q5, h⟩ := bnd_some h
    have w6 := e53 a0 a1 a2 r7 q5
    try simp -implicitDefEqProofs only [go_sem, Nat.reduceLT, Nat.reduceAdd, Nat.reduceSub, Nat.reduceMul, Nat.reduceEqDiff, Nat.reduceBEq, Nat.reduceLeDiff, Int.reduceToNat, Int.reduceLT, Int.reduceLE, Int.reduceEq, reduceCtorEq, ↓reduceIte] at w6
    cases h
    simp -implicitDefEqProofs only [go_sem, Nat.reduceLT, Nat.reduceAdd, Nat.reduceSub, Nat.reduceMul, Nat.reduceEqDiff, Nat.reduceBEq, Nat.reduceLeDiff, Int.reduceToNat, Int.reduceLT, Int.reduceLE, Int.reduceEq, reduceCtorEq, ↓reduceIte, X22_1, k22_1, w2, b4, w6]
theorem call22 (args : List AV) (S : St) : evCall T (evFL T) 22 args S = lendC (evFL T 22) S (lendAll S [[0], [3], [1]] args) := evCall0 fn22 rfl rfl args S
theorem callz22 (args : List AV) (S : St) : evCallFz T (evFL T) 22 args S = lendZ (evFL T 22) S [[0], [0]] (lendAll S [[0], [3], [1]] args) := evCallFz0 fn22 rfl rfl args S
attribute [go_sem] call22 callz22
theorem e22 (a0 : Int) (a1 : (List Rel)) (a2 : (List Int)) (r : (Bool × Bool)) (h : m22 a0 a1 a2 = some r) : evFL T 22 [.int .i64 a0, .ts .imm 3 (a1.map encRel), .ts .imm 1 (a2.map encInt)] [] = some (.tup [.bool r.1, .bool r.2], []) := by
  unfold m22 at h
  rw [evFL_at fn22 (Nat.le_of_ble_eq_true rfl) rfl (.inr rfl)]
  obtain ⟨v10, q8, h⟩ := bnd_some h
  have w9 := e22_1 a0 a1 a2 v10 q8
  simp only [X22_1] at w9
  try simp -implicitDefEqProofs only [go_sem, Nat.reduceLT, Nat.reduceAdd, Nat.reduceSub, Nat.reduceMul, Nat.reduceEqDiff, Nat.reduceBEq, Nat.reduceLeDiff, Int.reduceToNat, Int.reduceLT, Int.reduceLE, Int.reduceEq, reduceCtorEq, ↓reduceIte] at w9
  try simp -implicitDefEqProofs only [go_sem, Nat.reduceLT, Nat.reduceAdd, Nat.reduceSub, Nat.reduceMul, Nat.reduceEqDiff, Nat.reduceBEq, Nat.reduceLeDiff, Int.reduceToNat, Int.reduceLT, Int.reduceLE, Int.reduceEq, reduceCtorEq, ↓reduceIte, i22, c22, w9]
  cases b11 : (v10 : Bool)
  · replace h := br_f b11 h
    obtain ⟨r14, q12, h⟩ := bnd_some h
    have w13 := e54 a1 a2 r14 q12
    try simp -implicitDefEqProofs only [go_sem, Nat.reduceLT, Nat.reduceAdd, Nat.reduceSub, Nat.reduceMul, Nat.reduceEqDiff, Nat.reduceBEq, Nat.reduceLeDiff, Int.reduceToNat, Int.reduceLT, Int.reduceLE, Int.reduceEq, reduceCtorEq, ↓reduceIte] at w13
    cases h
    simp -implicitDefEqProofs only [go_sem, Nat.reduceLT, Nat.reduceAdd, Nat.reduceSub, Nat.reduceMul, Nat.reduceEqDiff, Nat.reduceBEq, Nat.reduceLeDiff, Int.reduceToNat, Int.reduceLT, Int.reduceLE, Int.reduceEq, reduceCtorEq, ↓reduceIte, i22, c22, w9, b11, w13]
  · replace h := br_t b11 h
    cases h
    simp -implicitDefEqProofs only [go_sem, Nat.reduceLT, Nat.reduceAdd, Nat.reduceSub, Nat.reduceMul, Nat.reduceEqDiff, Nat.reduceBEq, Nat.reduceLeDiff, Int.reduceToNat, Int.reduceLT, Int.reduceLE, Int.reduceEq, reduceCtorEq, ↓reduceIte, i22, c22, w9, b11]
-- f19 impl.MayTell
def X19_1 (a0 : Int) (a1 : (List Rel)) (a2 : Int) (a3 : Int) (a4 : Int) (o : Bool) : Ex × Fr × St :=
  (.normal, frOf 43 (upd (upd (upd (upd (upd anyF 1 (.ts .imm 3 (a1.map encRel))) 2 (.int .i64 a2)) 3 (.int .i64 a3)) 4 (.int .i64 a4)) 22 (.bool o)), [])
theorem e19_1 (a0 : Int) (a1 : (List Rel)) (a2 : Int) (a3 : Int) (a4 : Int) (o : Bool) (h : m19_1 a0 a1 a3 a4 = some o) : evCL T 0 k19_1 (frOf 43 (upd (upd (upd (upd (upd anyF 0 (.int .i64 a0)) 1 (.ts .imm 3 (a1.map encRel))) 2 (.int .i64 a2)) 3 (.int .i64 a3)) 4 (.int .i64 a4))) [] = some (X19_1 a0 a1 a2 a3 a4 o) := by
  unfold m19_1 at h
  obtain ⟨r3, q1, h⟩ := bnd_some h
  have w2 := e14 a0 a1 r3 q1
  try simp -implicitDefEqProofs only [go_sem, Nat.reduceLT, Nat.reduceAdd, Nat.reduceSub, Nat.reduceMul, Nat.reduceEqDiff, Nat.reduceBEq, Nat.reduceLeDiff, Int.reduceToNat, Int.reduceLT, Int.reduceLE, Int.reduceEq, reduceCtorEq, ↓reduceIte] at w2
  try simp -implicitDefEqProofs only [go_sem, Nat.reduceLT, Nat.reduceAdd, Nat.reduceSub, Nat.reduceMul, Nat.reduceEqDiff, Nat.reduceBEq, Nat.reduceLeDiff, Int.reduceToNat, Int.reduceLT, Int.reduceLE, Int.reduceEq, reduceCtorEq, ↓reduceIte, X19_1, k19_1, w2]
  cases b4 : (r3 : Bool)
  · replace h := br_f b4 h
    cases h
    simp -implicitDefEqProofs only [go_sem, Nat.reduceLT, Nat.reduceAdd, Nat.reduceSub, Nat.reduceMul, Nat.reduceEqDiff, Nat.reduceBEq, Nat.reduceLeDiff, Int.reduceToNat, Int.reduceLT, Int.reduceLE, Int.reduceEq, reduceCtorEq, ↓reduceIte, X19_1, k19_1, w2, b4]
  · replace h := br_t b4 h
    cases h
    simp -implicitDefEqProofs only [go_sem, Nat.reduceLT, Nat.reduceAdd, Nat.reduceSub, Nat.reduceMul, Nat.reduceEqDiff, Nat.reduceBEq, Nat.reduceLeDiff, Int.reduceToNat, Int.reduceLT, Int.reduceLE, Int.reduceEq, reduceCtorEq, ↓reduceIte, X19_1, k19_1, w2, b4]
def X19_2 (r11 : Int) (r14 : Int) (o : Bool) : Ex × Fr × St :=
  (.normal, frOf 43 (upd (upd (upd anyF 12 (.int .i64 r11)) 13 (.int .i64 r14)) 36 (.bool o)), [])
theorem e19_2 (r11 : Int) (r14 : Int) (o : Bool) (h : m19_2 r11 r14 = some o) : evCL T 0 k19_2 (frOf 43 (upd (upd anyF 12 (.int .i64 r11)) 13 (.int .i64 r14))) [] = some (X19_2 r11 r14 o) := by
  unfold m19_2 at h
  try simp -implicitDefEqProofs only [go_sem, Nat.reduceLT, Nat.reduceAdd, Nat.reduceSub, Nat.reduceMul, Nat.reduceEqDiff, Nat.reduceBEq, Nat.reduceLeDiff, Int.reduceToNat, Int.reduceLT, Int.reduceLE, Int.reduceEq, reduceCtorEq, ↓reduceIte, X19_2, k19_2]
  cases b15 : (eqI r11 0 : Bool)
  · replace h := br_f b15 h
    cases h
    simp -implicitDefEqProofs only [go_sem, Nat.reduceLT, Nat.reduceAdd, Nat.reduceSub, Nat.reduceMul, Nat.reduceEqDiff, Nat.reduceBEq, Nat.reduceLeDiff, Int.reduceToNat, Int.reduceLT, Int.reduceLE, Int.reduceEq, reduceCtorEq, ↓reduceIte, X19_2, k19_2, b15]
  · replace h := br_t b15 h
    cases h
    simp -implicitDefEqProofs only [go_sem, Nat.reduceLT, Nat.reduceAdd, Nat.reduceSub, Nat.reduceMul, Nat.reduceEqDiff, Nat.reduceBEq, Nat.reduceLeDiff, Int.reduceToNat, Int.reduceLT, Int.reduceLE, Int.reduceEq, reduceCtorEq, ↓reduceIte, X19_2, k19_2, b15]
def X19_3 (r11 : Int) (r14 : Int) (o : Bool) : Ex × Fr × St :=
  (.normal, frOf 43 (upd (upd anyF 10 (.bool o)) 11 (.bool true)), [])
theorem e19_3 (r11 : Int) (r14 : Int) (o : Bool) (h : m19_3 r11 r14 = some o) : evCL T 0 k19_3 (frOf 43 (upd (upd anyF 12 (.int .i64 r11)) 13 (.int .i64 r14))) [] = some (X19_3 r11 r14 o) := by
  unfold m19_3 at h
  try simp -implicitDefEqProofs only [go_sem, Nat.reduceLT, Nat.reduceAdd, Nat.reduceSub, Nat.reduceMul, Nat.reduceEqDiff, Nat.reduceBEq, Nat.reduceLeDiff, Int.reduceToNat, Int.reduceLT, Int.reduceLE, Int.reduceEq, reduceCtorEq, ↓reduceIte, X19_3, k19_3]
  cases b20 : (eqI r11 1 : Bool)
  · replace h := br_f b20 h
    cases h
    simp -implicitDefEqProofs only [go_sem, Nat.reduceLT, Nat.reduceAdd, Nat.reduceSub, Nat.reduceMul, Nat.reduceEqDiff, Nat.reduceBEq, Nat.reduceLeDiff, Int.reduceToNat, Int.reduceLT, Int.reduceLE, Int.reduceEq, reduceCtorEq, ↓reduceIte, X19_3, k19_3, b20]
  · replace h := br_t b20 h
    cases h
    simp -implicitDefEqProofs only [go_sem, Nat.reduceLT, Nat.reduceAdd, Nat.reduceSub, Nat.reduceMul, Nat.reduceEqDiff, Nat.reduceBEq, Nat.reduceLeDiff, Int.reduceToNat, Int.reduceLT, Int.reduceLE, Int.reduceEq, reduceCtorEq, ↓reduceIte, X19_3, k19_3, b20]
theorem call19 (args : List AV) (S : St) : evCall T (evFL T) 19 args S = lendC (evFL T 19) S (lendAll S [[0], [3], [0], [0], [0]] args) := evCall0 fn19 rfl rfl args S
theorem callz19 (args : List AV) (S : St) : evCallFz T (evFL T) 19 args S = lendZ (evFL T 19) S [[0], [0]] (lendAll S [[0], [3], [0], [0], [0]] args) := evCallFz0 fn19 rfl rfl args S
attribute [go_sem] call19 callz19
theorem e19 (a0 : Int) (a1 : (List Rel)) (a2 : Int) (a3 : Int) (a4 : Int) (r : (Bool × Bool)) (h : m19 a0 a1 a2 a3 a4 = some r) : evFL T 19 [.int .i64 a0, .ts .imm 3 (a1.map encRel), .int .i64 a2, .int .i64 a3, .int .i64 a4] [] = some (.tup [.bool r.1, .bool r.2], []) := by
  unfold m19 at h
  rw [evFL_at fn19 (Nat.le_of_ble_eq_true rfl) rfl (.inr rfl)]
  obtain ⟨v7, q5, h⟩ := bnd_some h
  have w6 := e19_1 a0 a1 a2 a3 a4 v7 q5
  simp only [X19_1] at w6
  try simp -implicitDefEqProofs only [go_sem, Nat.reduceLT, Nat.reduceAdd, Nat.reduceSub, Nat.reduceMul, Nat.reduceEqDiff, Nat.reduceBEq, Nat.reduceLeDiff, Int.reduceToNat, Int.reduceLT, Int.reduceLE, Int.reduceEq, reduceCtorEq, ↓reduceIte] at w6
  try simp -implicitDefEqProofs only [go_sem, Nat.reduceLT, Nat.reduceAdd, Nat.reduceSub, Nat.reduceMul, Nat.reduceEqDiff, Nat.reduceBEq, Nat.reduceLeDiff, Int.reduceToNat, Int.reduceLT, Int.reduceLE, Int.reduceEq, reduceCtorEq, ↓reduceIte, i19, c19, w6]
  cases b8 : (v7 : Bool)
  · replace h := br_f b8 h
    obtain ⟨r11, q9, h⟩ := bnd_some h
    have w10 := e46 a1 a2 a3 r11 q9
    try simp -implicitDefEqProofs only [go_sem, Nat.reduceLT, Nat.reduceAdd, Nat.reduceSub, Nat.reduceMul, Nat.reduceEqDiff, Nat.reduceBEq, Nat.reduceLeDiff, Int.reduceToNat, Int.reduceLT, Int.reduceLE, Int.reduceEq, reduceCtorEq, ↓reduceIte] at w10
    obtain ⟨r14, q12, h⟩ := bnd_some h
    have w13 := e46 a1 a2 a4 r14 q12
    try simp -implicitDefEqProofs only [go_sem, Nat.reduceLT, Nat.reduceAdd, Nat.reduceSub, Nat.reduceMul, Nat.reduceEqDiff, Nat.reduceBEq, Nat.reduceLeDiff, Int.reduceToNat, Int.reduceLT, Int.reduceLE, Int.reduceEq, reduceCtorEq, ↓reduceIte] at w13
    obtain ⟨v18, q16, h⟩ := bnd_some h
    have w17 := e19_2 r11 r14 v18 q16
    simp only [X19_2] at w17
    try simp -implicitDefEqProofs only [go_sem, Nat.reduceLT, Nat.reduceAdd, Nat.reduceSub, Nat.reduceMul, Nat.reduceEqDiff, Nat.reduceBEq, Nat.reduceLeDiff, Int.reduceToNat, Int.reduceLT, Int.reduceLE, Int.reduceEq, reduceCtorEq, ↓reduceIte] at w17
    try simp -implicitDefEqProofs only [go_sem, Nat.reduceLT, Nat.reduceAdd, Nat.reduceSub, Nat.reduceMul, Nat.reduceEqDiff, Nat.reduceBEq, Nat.reduceLeDiff, Int.reduceToNat, Int.reduceLT, Int.reduceLE, Int.reduceEq, reduceCtorEq, ↓reduceIte, i19, c19, w6, b8, w10, w13, w17]
    cases b19 : (v18 : Bool)
    · replace h := br_f b19 h
      obtain ⟨v23, q21, h⟩ := bnd_some h
      have w22 := e19_3 r11 r14 v23 q21
      simp only [X19_3] at w22
      try simp -implicitDefEqProofs only [go_sem, Nat.reduceLT, Nat.reduceAdd, Nat.reduceSub, Nat.reduceMul, Nat.reduceEqDiff, Nat.reduceBEq, Nat.reduceLeDiff, Int.reduceToNat, Int.reduceLT, Int.reduceLE, Int.reduceEq, reduceCtorEq, ↓reduceIte] at w22
      cases h
      simp -implicitDefEqProofs only [go_sem, Nat.reduceLT, Nat.reduceAdd, Nat.reduceSub, Nat.reduceMul, Nat.reduceEqDiff, Nat.reduceBEq, Nat.reduceLeDiff, Int.reduceToNat, Int.reduceLT, Int.reduceLE, Int.reduceEq, reduceCtorEq, ↓reduceIte, i19, c19, w6, b8, w10, w13, w17, b19, w22]
    · replace h := br_t b19 h
      cases h
      simp -implicitDefEqProofs only [go_sem, Nat.reduceLT, Nat.reduceAdd, Nat.reduceSub, Nat.reduceMul, Nat.reduceEqDiff, Nat.reduceBEq, Nat.reduceLeDiff, Int.reduceToNat, Int.reduceLT, Int.reduceLE, Int.reduceEq, reduceCtorEq, ↓reduceIte, i19, c19, w6, b8, w10, w13, w17, b19]
  · replace h := br_t b8 h
    cases h
    simp -implicitDefEqProofs only [go_sem, Nat.reduceLT, Nat.reduceAdd, Nat.reduceSub, Nat.reduceMul, Nat.reduceEqDiff, Nat.reduceBEq, Nat.reduceLeDiff, Int.reduceToNat, Int.reduceLT, Int.reduceLE, Int.reduceEq, reduceCtorEq, ↓reduceIte, i19, c19, w6, b8]
-- f27 spec.DrawKindTo
theorem call27 (args : List AV) (S : St) : evCall T (evFL T) 27 args S = lendC (evFL T 27) S (lendAll S [[1]] args) := evCall0 fn27 rfl rfl args S
theorem callz27 (args : List AV) (S : St) : evCallFz T (evFL T) 27 args S = lendZ (evFL T 27) S [[0], [3], [0], [0]] (lendAll S [[1]] args) := evCallFz0 fn27 rfl rfl args S
attribute [go_sem] call27 callz27
theorem e27 (a0 : (List Int)) (r : (Int × (List Rel) × Int × Int)) (h : m27 a0 = some r) : evFL T 27 [.ts .imm 1 (a0.map encIntu8)] [] = some (.tup [.int .i64 r.1, .sl 0 0 r.2.1.length, .int .i64 r.2.2.1, .int .i64 r.2.2.2], [some ⟨.arr, 3, r.2.1.map encRel⟩]) := by
  unfold m27 at h
  rw [evFL_at fn27 (Nat.le_of_ble_eq_true rfl) rfl (.inr rfl)]
  obtain ⟨⟨r3, r4, r5, r6⟩, q1, h⟩ := bnd_some h
  replace h := sel4_some h
  have w2 := e57 (⟨a0, 0, 0⟩ : l1Cur) (r3, r4, r5, r6) q1
  try simp -implicitDefEqProofs only [go_sem, Nat.reduceLT, Nat.reduceAdd, Nat.reduceSub, Nat.reduceMul, Nat.reduceEqDiff, Nat.reduceBEq, Nat.reduceLeDiff, Int.reduceToNat, Int.reduceLT, Int.reduceLE, Int.reduceEq, reduceCtorEq, ↓reduceIte] at w2
  obtain ⟨⟨r9, r10, r11⟩, q7, h⟩ := bnd_some h
  replace h := sel3_some h
  have w8 := e58 (⟨a0, r4, r5⟩ : l1Cur) 6 (r9, r10, r11) q7
  try simp -implicitDefEqProofs only [go_sem, Nat.reduceLT, Nat.reduceAdd, Nat.reduceSub, Nat.reduceMul, Nat.reduceEqDiff, Nat.reduceBEq, Nat.reduceLeDiff, Int.reduceToNat, Int.reduceLT, Int.reduceLE, Int.reduceEq, reduceCtorEq, ↓reduceIte] at w8
  obtain ⟨⟨r14, r15, r16⟩, q12, h⟩ := bnd_some h
  replace h := sel3_some h
  have w13 := e58 (⟨a0, r10, r11⟩ : l1Cur) 6 (r14, r15, r16) q12
  try simp -implicitDefEqProofs only [go_sem, Nat.reduceLT, Nat.reduceAdd, Nat.reduceSub, Nat.reduceMul, Nat.reduceEqDiff, Nat.reduceBEq, Nat.reduceLeDiff, Int.reduceToNat, Int.reduceLT, Int.reduceLE, Int.reduceEq, reduceCtorEq, ↓reduceIte] at w13
  cases h
  simp -implicitDefEqProofs only [go_sem, Nat.reduceLT, Nat.reduceAdd, Nat.reduceSub, Nat.reduceMul, Nat.reduceEqDiff, Nat.reduceBEq, Nat.reduceLeDiff, Int.reduceToNat, Int.reduceLT, Int.reduceLE, Int.reduceEq, reduceCtorEq, ↓reduceIte, i27, c27, w2, w8, w13]
-- f17 impl.KindTo
theorem call17 (args : List AV) (S : St) : evCall T (evFL T) 17 args S = lendC (evFL T 17) S (lendAll S [[0], [3], [0], [0]] args) := evCall0 fn17 rfl rfl args S
theorem callz17 (args : List AV) (S : St) : evCallFz T (evFL T) 17 args S = lendZ (evFL T 17) S [[0], [0]] (lendAll S [[0], [3], [0], [0]] args) := evCallFz0 fn17 rfl rfl args S
attribute [go_sem] call17 callz17
theorem e17 (a0 : Int) (a1 : (List Rel)) (a2 : Int) (a3 : Int) (r : (Int × Bool)) (h : m17 a0 a1 a2 a3 = some r) : evFL T 17 [.int .i64 a0, .ts .imm 3 (a1.map encRel), .int .i64 a2, .int .i64 a3] [] = some (.tup [.int .i64 r.1, .bool r.2], []) := by
  unfold m17 at h
  rw [evFL_at fn17 (Nat.le_of_ble_eq_true rfl) rfl (.inr rfl)]
  obtain ⟨r3, q1, h⟩ := bnd_some h
  have w2 := e14 a0 a1 r3 q1
  try simp -implicitDefEqProofs only [go_sem, Nat.reduceLT, Nat.reduceAdd, Nat.reduceSub, Nat.reduceMul, Nat.reduceEqDiff, Nat.reduceBEq, Nat.reduceLeDiff, Int.reduceToNat, Int.reduceLT, Int.reduceLE, Int.reduceEq, reduceCtorEq, ↓reduceIte] at w2
  try simp -implicitDefEqProofs only [go_sem, Nat.reduceLT, Nat.reduceAdd, Nat.reduceSub, Nat.reduceMul, Nat.reduceEqDiff, Nat.reduceBEq, Nat.reduceLeDiff, Int.reduceToNat, Int.reduceLT, Int.reduceLE, Int.reduceEq, reduceCtorEq, ↓reduceIte, i17, c17, w2]
  cases b4 : (r3 : Bool)
  · replace h := br_f b4 h
    cases h
    simp -implicitDefEqProofs only [go_sem, Nat.reduceLT, Nat.reduceAdd, Nat.reduceSub, Nat.reduceMul, Nat.reduceEqDiff, Nat.reduceBEq, Nat.reduceLeDiff, Int.reduceToNat, Int.reduceLT, Int.reduceLE, Int.reduceEq, reduceCtorEq, ↓reduceIte, i17, c17, w2, b4]
  · replace h := br_t b4 h
    obtain ⟨r7, q5, h⟩ := bnd_some h
    have w6 := e46 a1 a2 a3 r7 q5
    try simp -implicitDefEqProofs only [go_sem, Nat.reduceLT, Nat.reduceAdd, Nat.reduceSub, Nat.reduceMul, Nat.reduceEqDiff, Nat.reduceBEq, Nat.reduceLeDiff, Int.reduceToNat, Int.reduceLT, Int.reduceLE, Int.reduceEq, reduceCtorEq, ↓reduceIte] at w6
    cases h
    simp -implicitDefEqProofs only [go_sem, Nat.reduceLT, Nat.reduceAdd, Nat.reduceSub, Nat.reduceMul, Nat.reduceEqDiff, Nat.reduceBEq, Nat.reduceLeDiff, Int.reduceToNat, Int.reduceLT, Int.reduceLE, Int.reduceEq, reduceCtorEq, ↓reduceIte, i17, c17, w2, b4, w6]
-- f16 spec.KindTo
def X16_1 (a0 : Int) (a1 : (List Rel)) (a2 : Int) (a3 : Int) (o : Bool) : Ex × Fr × St :=
  (.normal, frOf 25 (upd (upd (upd (upd anyF 1 (.ts .imm 3 (a1.map encRel))) 2 (.int .i64 a2)) 3 (.int .i64 a3)) 20 (.bool o)), [])
theorem e16_1 (a0 : Int) (a1 : (List Rel)) (a2 : Int) (a3 : Int) (o : Bool) (h : m16_1 a0 a1 a2 a3 = some o) : evCL T 0 k16_1 (frOf 25 (upd (upd (upd (upd anyF 0 (.int .i64 a0)) 1 (.ts .imm 3 (a1.map encRel))) 2 (.int .i64 a2)) 3 (.int .i64 a3))) [] = some (X16_1 a0 a1 a2 a3 o) := by
  unfold m16_1 at h
  obtain ⟨r3, q1, h⟩ := bnd_some h
  have w2 := e12 a0 a1 r3 q1
  try simp -implicitDefEqProofs only [go_sem, Nat.reduceLT, Nat.reduceAdd, Nat.reduceSub, Nat.reduceMul, Nat.reduceEqDiff, Nat.reduceBEq, Nat.reduceLeDiff, Int.reduceToNat, Int.reduceLT, Int.reduceLE, Int.reduceEq, reduceCtorEq, ↓reduceIte] at w2
  try simp -implicitDefEqProofs only [go_sem, Nat.reduceLT, Nat.reduceAdd, Nat.reduceSub, Nat.reduceMul, Nat.reduceEqDiff, Nat.reduceBEq, Nat.reduceLeDiff, Int.reduceToNat, Int.reduceLT, Int.reduceLE, Int.reduceEq, reduceCtorEq, ↓reduceIte, X16_1, k16_1, w2]
  cases b4 : (r3 : Bool)
  · replace h := br_f b4 h
    cases h
    simp -implicitDefEqProofs only [go_sem, Nat.reduceLT, Nat.reduceAdd, Nat.reduceSub, Nat.reduceMul, Nat.reduceEqDiff, Nat.reduceBEq, Nat.reduceLeDiff, Int.reduceToNat, Int.reduceLT, Int.reduceLE, Int.reduceEq, reduceCtorEq, ↓reduceIte, X16_1, k16_1, w2, b4]
  · replace h := br_t b4 h
    obtain ⟨r7, q5, h⟩ := bnd_some h
    have w6 := e45 a1 a2 a3 r7 q5
    try simp -implicitDefEqProofs only [go_sem, Nat.reduceLT, Nat.reduceAdd, Nat.reduceSub, Nat.reduceMul, Nat.reduceEqDiff, Nat.reduceBEq, Nat.reduceLeDiff, Int.reduceToNat, Int.reduceLT, Int.reduceLE, Int.reduceEq, reduceCtorEq, ↓reduceIte] at w6
    cases h
    simp -implicitDefEqProofs only [go_sem, Nat.reduceLT, Nat.reduceAdd, Nat.reduceSub, Nat.reduceMul, Nat.reduceEqDiff, Nat.reduceBEq, Nat.reduceLeDiff, Int.reduceToNat, Int.reduceLT, Int.reduceLE, Int.reduceEq, reduceCtorEq, ↓reduceIte, X16_1, k16_1, w2, b4, w6]
theorem call16 (args : List AV) (S : St) : evCall T (evFL T) 16 args S = lendC (evFL T 16) S (lendAll S [[0], [3], [0], [0]] args) := evCall0 fn16 rfl rfl args S
theorem callz16 (args : List AV) (S : St) : evCallFz T (evFL T) 16 args S = lendZ (evFL T 16) S [[0], [0]] (lendAll S [[0], [3], [0], [0]] args) := evCallFz0 fn16 rfl rfl args S
attribute [go_sem] call16 callz16
theorem e16 (a0 : Int) (a1 : (List Rel)) (a2 : Int) (a3 : Int) (r : (Int × Bool)) (h : m16 a0 a1 a2 a3 = some r) : evFL T 16 [.int .i64 a0, .ts .imm 3 (a1.map encRel), .int .i64 a2, .int .i64 a3] [] = some (.tup [.int .i64 r.1, .bool r.2], []) := by
  unfold m16 at h
  rw [evFL_at fn16 (Nat.le_of_ble_eq_true rfl) rfl (.inr rfl)]
  obtain ⟨v10, q8, h⟩ := bnd_some h
  have w9 := e16_1 a0 a1 a2 a3 v10 q8
  simp only [X16_1] at w9
  try simp -implicitDefEqProofs only [go_sem, Nat.reduceLT, Nat.reduceAdd, Nat.reduceSub, Nat.reduceMul, Nat.reduceEqDiff, Nat.reduceBEq, Nat.reduceLeDiff, Int.reduceToNat, Int.reduceLT, Int.reduceLE, Int.reduceEq, reduceCtorEq, ↓reduceIte] at w9
  try simp -implicitDefEqProofs only [go_sem, Nat.reduceLT, Nat.reduceAdd, Nat.reduceSub, Nat.reduceMul, Nat.reduceEqDiff, Nat.reduceBEq, Nat.reduceLeDiff, Int.reduceToNat, Int.reduceLT, Int.reduceLE, Int.reduceEq, reduceCtorEq, ↓reduceIte, i16, c16, w9]
  cases b11 : (v10 : Bool)
  · replace h := br_f b11 h
    obtain ⟨r14, q12, h⟩ := bnd_some h
    have w13 := e45 a1 a2 a3 r14 q12
    try simp -implicitDefEqProofs only [go_sem, Nat.reduceLT, Nat.reduceAdd, Nat.reduceSub, Nat.reduceMul, Nat.reduceEqDiff, Nat.reduceBEq, Nat.reduceLeDiff, Int.reduceToNat, Int.reduceLT, Int.reduceLE, Int.reduceEq, reduceCtorEq, ↓reduceIte] at w13
    cases h
    simp -implicitDefEqProofs only [go_sem, Nat.reduceLT, Nat.reduceAdd, Nat.reduceSub, Nat.reduceMul, Nat.reduceEqDiff, Nat.reduceBEq, Nat.reduceLeDiff, Int.reduceToNat, Int.reduceLT, Int.reduceLE, Int.reduceEq, reduceCtorEq, ↓reduceIte, i16, c16, w9, b11, w13]
  · replace h := br_t b11 h
    cases h
    simp -implicitDefEqProofs only [go_sem, Nat.reduceLT, Nat.reduceAdd, Nat.reduceSub, Nat.reduceMul, Nat.reduceEqDiff, Nat.reduceBEq, Nat.reduceLeDiff, Int.reduceToNat, Int.reduceLT, Int.reduceLE, Int.reduceEq, reduceCtorEq, ↓reduceIte, i16, c16, w9, b11]
-- f28 spec.DrawMayTell
theorem call28 (args : List AV) (S : St) : evCall T (evFL T) 28 args S = lendC (evFL T 28) S (lendAll S [[1]] args) := evCall0 fn28 rfl rfl args S
theorem callz28 (args : List AV) (S : St) : evCallFz T (evFL T) 28 args S = lendZ (evFL T 28) S [[0], [3], [0], [0], [0]] (lendAll S [[1]] args) := evCallFz0 fn28 rfl rfl args S
attribute [go_sem] call28 callz28
theorem e28 (a0 : (List Int)) (r : (Int × (List Rel) × Int × Int × Int)) (h : m28 a0 = some r) : evFL T 28 [.ts .imm 1 (a0.map encIntu8)] [] = some (.tup [.int .i64 r.1, .sl 0 0 r.2.1.length, .int .i64 r.2.2.1, .int .i64 r.2.2.2.1, .int .i64 r.2.2.2.2], [some ⟨.arr, 3, r.2.1.map encRel⟩]) := by
  unfold m28 at h
  rw [evFL_at fn28 (Nat.le_of_ble_eq_true rfl) rfl (.inr rfl)]
  obtain ⟨⟨r3, r4, r5, r6⟩, q1, h⟩ := bnd_some h
  replace h := sel4_some h
  have w2 := e57 (⟨a0, 0, 0⟩ : l1Cur) (r3, r4, r5, r6) q1
  try simp -implicitDefEqProofs only [go_sem, Nat.reduceLT, Nat.reduceAdd, Nat.reduceSub, Nat.reduceMul, Nat.reduceEqDiff, Nat.reduceBEq, Nat.reduceLeDiff, Int.reduceToNat, Int.reduceLT, Int.reduceLE, Int.reduceEq, reduceCtorEq, ↓reduceIte] at w2
  obtain ⟨⟨r9, r10, r11⟩, q7, h⟩ := bnd_some h
  replace h := sel3_some h
  have w8 := e58 (⟨a0, r4, r5⟩ : l1Cur) 5 (r9, r10, r11) q7
  try simp -implicitDefEqProofs only [go_sem, Nat.reduceLT, Nat.reduceAdd, Nat.reduceSub, Nat.reduceMul, Nat.reduceEqDiff, Nat.reduceBEq, Nat.reduceLeDiff, Int.reduceToNat, Int.reduceLT, Int.reduceLE, Int.reduceEq, reduceCtorEq, ↓reduceIte] at w8
  obtain ⟨⟨r14, r15, r16⟩, q12, h⟩ := bnd_some h
  replace h := sel3_some h
  have w13 := e58 (⟨a0, r10, r11⟩ : l1Cur) 5 (r14, r15, r16) q12
  try simp -implicitDefEqProofs only [go_sem, Nat.reduceLT, Nat.reduceAdd, Nat.reduceSub, Nat.reduceMul, Nat.reduceEqDiff, Nat.reduceBEq, Nat.reduceLeDiff, Int.reduceToNat, Int.reduceLT, Int.reduceLE, Int.reduceEq, reduceCtorEq, ↓reduceIte] at w13
  obtain ⟨⟨r19, r20, r21⟩, q17, h⟩ := bnd_some h
  replace h := sel3_some h
  have w18 := e58 (⟨a0, r15, r16⟩ : l1Cur) 5 (r19, r20, r21) q17
  try simp -implicitDefEqProofs only [go_sem, Nat.reduceLT, Nat.reduceAdd, Nat.reduceSub, Nat.reduceMul, Nat.reduceEqDiff, Nat.reduceBEq, Nat.reduceLeDiff, Int.reduceToNat, Int.reduceLT, Int.reduceLE, Int.reduceEq, reduceCtorEq, ↓reduceIte] at w18
  cases h
  simp -implicitDefEqProofs only [go_sem, Nat.reduceLT, Nat.reduceAdd, Nat.reduceSub, Nat.reduceMul, Nat.reduceEqDiff, Nat.reduceBEq, Nat.reduceLeDiff, Int.reduceToNat, Int.reduceLT, Int.reduceLE, Int.reduceEq, reduceCtorEq, ↓reduceIte, i28, c28, w2, w8, w13, w18]
-- f18 spec.MayTell
def X18_1 (a0 : Int) (a1 : (List Rel)) (a2 : Int) (a3 : Int) (a4 : Int) (o : Bool) : Ex × Fr × St :=
  (.normal, frOf 57 (upd (upd (upd (upd (upd anyF 1 (.ts .imm 3 (a1.map encRel))) 2 (.int .i64 a2)) 3 (.int .i64 a3)) 4 (.int .i64 a4)) 44 (.bool o)), [])
theorem e18_1 (a0 : Int) (a1 : (List Rel)) (a2 : Int) (a3 : Int) (a4 : Int) (o : Bool) (h : m18_1 a0 a1 a2 a3 a4 = some o) : evCL T 0 k18_1 (frOf 57 (upd (upd (upd (upd (upd anyF 0 (.int .i64 a0)) 1 (.ts .imm 3 (a1.map encRel))) 2 (.int .i64 a2)) 3 (.int .i64 a3)) 4 (.int .i64 a4))) [] = some (X18_1 a0 a1 a2 a3 a4 o) := by
  unfold m18_1 at h
  obtain ⟨r3, q1, h⟩ := bnd_some h
  have w2 := e12 a0 a1 r3 q1
  try simp -implicitDefEqProofs only [go_sem, Nat.reduceLT, Nat.reduceAdd, Nat.reduceSub, Nat.reduceMul, Nat.reduceEqDiff, Nat.reduceBEq, Nat.reduceLeDiff, Int.reduceToNat, Int.reduceLT, Int.reduceLE, Int.reduceEq, reduceCtorEq, ↓reduceIte] at w2
  try simp -implicitDefEqProofs only [go_sem, Nat.reduceLT, Nat.reduceAdd, Nat.reduceSub, Nat.reduceMul, Nat.reduceEqDiff, Nat.reduceBEq, Nat.reduceLeDiff, Int.reduceToNat, Int.reduceLT, Int.reduceLE, Int.reduceEq, reduceCtorEq, ↓reduceIte, X18_1, k18_1, w2]
  cases b4 : (r3 : Bool)
  · replace h := br_f b4 h
    cases h
    simp -implicitDefEqProofs only [go_sem, Nat.reduceLT, Nat.reduceAdd, Nat.reduceSub, Nat.reduceMul, Nat.reduceEqDiff, Nat.reduceBEq, Nat.reduceLeDiff, Int.reduceToNat, Int.reduceLT, Int.reduceLE, Int.reduceEq, reduceCtorEq, ↓reduceIte, X18_1, k18_1, w2, b4]
  · replace h := br_t b4 h
    try simp -implicitDefEqProofs only [go_sem, Nat.reduceLT, Nat.reduceAdd, Nat.reduceSub, Nat.reduceMul, Nat.reduceEqDiff, Nat.reduceBEq, Nat.reduceLeDiff, Int.reduceToNat, Int.reduceLT, Int.reduceLE, Int.reduceEq, reduceCtorEq, ↓reduceIte, X18_1, k18_1, w2, b4]
    cases b5 : (eqI a2 a3 : Bool)
    · replace h := br_f b5 h
      try simp -implicitDefEqProofs only [go_sem, Nat.reduceLT, Nat.reduceAdd, Nat.reduceSub, Nat.reduceMul, Nat.reduceEqDiff, Nat.reduceBEq, Nat.reduceLeDiff, Int.reduceToNat, Int.reduceLT, Int.reduceLE, Int.reduceEq, reduceCtorEq, ↓reduceIte, X18_1, k18_1, w2, b4, b5]
      cases b6 : (eqI a3 a4 : Bool)
      · replace h := br_f b6 h
        try simp -implicitDefEqProofs only [go_sem, Nat.reduceLT, Nat.reduceAdd, Nat.reduceSub, Nat.reduceMul, Nat.reduceEqDiff, Nat.reduceBEq, Nat.reduceLeDiff, Int.reduceToNat, Int.reduceLT, Int.reduceLE, Int.reduceEq, reduceCtorEq, ↓reduceIte, X18_1, k18_1, w2, b4, b5, b6]
        cases b7 : (eqI a2 a4 : Bool)
        · replace h := br_f b7 h
          obtain ⟨r10, q8, h⟩ := bnd_some h
          have w9 := e45 a1 a2 a3 r10 q8
          try simp -implicitDefEqProofs only [go_sem, Nat.reduceLT, Nat.reduceAdd, Nat.reduceSub, Nat.reduceMul, Nat.reduceEqDiff, Nat.reduceBEq, Nat.reduceLeDiff, Int.reduceToNat, Int.reduceLT, Int.reduceLE, Int.reduceEq, reduceCtorEq, ↓reduceIte] at w9
          try simp -implicitDefEqProofs only [go_sem, Nat.reduceLT, Nat.reduceAdd, Nat.reduceSub, Nat.reduceMul, Nat.reduceEqDiff, Nat.reduceBEq, Nat.reduceLeDiff, Int.reduceToNat, Int.reduceLT, Int.reduceLE, Int.reduceEq, reduceCtorEq, ↓reduceIte, X18_1, k18_1, w2, b4, b5, b6, b7, w9]
          cases b11 : (eqI r10 0 : Bool)
          · replace h := br_f b11 h
            obtain ⟨r14, q12, h⟩ := bnd_some h
            have w13 := e45 a1 a2 a4 r14 q12
            try simp -implicitDefEqProofs only [go_sem, Nat.reduceLT, Nat.reduceAdd, Nat.reduceSub, Nat.reduceMul, Nat.reduceEqDiff, Nat.reduceBEq, Nat.reduceLeDiff, Int.reduceToNat, Int.reduceLT, Int.reduceLE, Int.reduceEq, reduceCtorEq, ↓reduceIte] at w13
            cases h
            simp -implicitDefEqProofs only [go_sem, Nat.reduceLT, Nat.reduceAdd, Nat.reduceSub, Nat.reduceMul, Nat.reduceEqDiff, Nat.reduceBEq, Nat.reduceLeDiff, Int.reduceToNat, Int.reduceLT, Int.reduceLE, Int.reduceEq, reduceCtorEq, ↓reduceIte, X18_1, k18_1, w2, b4, b5, b6, b7, w9, b11, w13]
          · replace h := br_t b11 h
            cases h
            simp -implicitDefEqProofs only [go_sem, Nat.reduceLT, Nat.reduceAdd, Nat.reduceSub, Nat.reduceMul, Nat.reduceEqDiff, Nat.reduceBEq, Nat.reduceLeDiff, Int.reduceToNat, Int.reduceLT, Int.reduceLE, Int.reduceEq, reduceCtorEq, ↓reduceIte, X18_1, k18_1, w2, b4, b5, b6, b7, w9, b11]
        · replace h := br_t b7 h
          cases h
          simp -implicitDefEqProofs only [go_sem, Nat.reduceLT, Nat.reduceAdd, Nat.reduceSub, Nat.reduceMul, Nat.reduceEqDiff, Nat.reduceBEq, Nat.reduceLeDiff, Int.reduceToNat, Int.reduceLT, Int.reduceLE, Int.reduceEq, reduceCtorEq, ↓reduceIte, X18_1, k18_1, w2, b4, b5, b6, b7]
      · replace h := br_t b6 h
        cases h
        simp -implicitDefEqProofs only [go_sem, Nat.reduceLT, Nat.reduceAdd, Nat.reduceSub, Nat.reduceMul, Nat.reduceEqDiff, Nat.reduceBEq, Nat.reduceLeDiff, Int.reduceToNat, Int.reduceLT, Int.reduceLE, Int.reduceEq, reduceCtorEq, ↓reduceIte, X18_1, k18_1, w2, b4, b5, b6]
    · replace h := br_t b5 h
      cases h
      simp -implicitDefEqProofs only [go_sem, Nat.reduceLT, Nat.reduceAdd, Nat.reduceSub, Nat.reduceMul, Nat.reduceEqDiff, Nat.reduceBEq, Nat.reduceLeDiff, Int.reduceToNat, Int.reduceLT, Int.reduceLE, Int.reduceEq, reduceCtorEq, ↓reduceIte, X18_1, k18_1, w2, b4, b5]
def X18_2 (a1 : (List Rel)) (a2 : Int) (a3 : Int) (a4 : Int) (o : Bool) : Ex × Fr × St :=
  (.normal, frOf 57 (upd (upd anyF 10 (.bool o)) 11 (.bool true)), [])
theorem e18_2 (a1 : (List Rel)) (a2 : Int) (a3 : Int) (a4 : Int) (o : Bool) (h : m18_2 a1 a2 a3 a4 = some o) : evCL T 0 k18_2 (frOf 57 (upd (upd (upd (upd anyF 1 (.ts .imm 3 (a1.map encRel))) 2 (.int .i64 a2)) 3 (.int .i64 a3)) 4 (.int .i64 a4))) [] = some (X18_2 a1 a2 a3 a4 o) := by
  unfold m18_2 at h
  obtain ⟨r21, q19, h⟩ := bnd_some h
  have w20 := e45 a1 a2 a3 r21 q19
  try simp -implicitDefEqProofs only [go_sem, Nat.reduceLT, Nat.reduceAdd, Nat.reduceSub, Nat.reduceMul, Nat.reduceEqDiff, Nat.reduceBEq, Nat.reduceLeDiff, Int.reduceToNat, Int.reduceLT, Int.reduceLE, Int.reduceEq, reduceCtorEq, ↓reduceIte] at w20
  try simp -implicitDefEqProofs only [go_sem, Nat.reduceLT, Nat.reduceAdd, Nat.reduceSub, Nat.reduceMul, Nat.reduceEqDiff, Nat.reduceBEq, Nat.reduceLeDiff, Int.reduceToNat, Int.reduceLT, Int.reduceLE, Int.reduceEq, reduceCtorEq, ↓reduceIte, X18_2, k18_2, w20]
  cases b22 : (eqI r21 1 : Bool)
  · replace h := br_f b22 h
    obtain ⟨r25, q23, h⟩ := bnd_some h
    have w24 := e45 a1 a2 a4 r25 q23
    try simp -implicitDefEqProofs only [go_sem, Nat.reduceLT, Nat.reduceAdd, Nat.reduceSub, Nat.reduceMul, Nat.reduceEqDiff, Nat.reduceBEq, Nat.reduceLeDiff, Int.reduceToNat, Int.reduceLT, Int.reduceLE, Int.reduceEq, reduceCtorEq, ↓reduceIte] at w24
    cases h
    simp -implicitDefEqProofs only [go_sem, Nat.reduceLT, Nat.reduceAdd, Nat.reduceSub, Nat.reduceMul, Nat.reduceEqDiff, Nat.reduceBEq, Nat.reduceLeDiff, Int.reduceToNat, Int.reduceLT, Int.reduceLE, Int.reduceEq, reduceCtorEq, ↓reduceIte, X18_2, k18_2, w20, b22, w24]
  · replace h := br_t b22 h
    cases h
    simp -implicitDefEqProofs only [go_sem, Nat.reduceLT, Nat.reduceAdd, Nat.reduceSub, Nat.reduceMul, Nat.reduceEqDiff, Nat.reduceBEq, Nat.reduceLeDiff, Int.reduceToNat, Int.reduceLT, Int.reduceLE, Int.reduceEq, reduceCtorEq, ↓reduceIte, X18_2, k18_2, w20, b22]
theorem call18 (args : List AV) (S : St) : evCall T (evFL T) 18 args S = lendC (evFL T 18) S (lendAll S [[0], [3], [0], [0], [0]] args) := evCall0 fn18 rfl rfl args S
theorem callz18 (args : List AV) (S : St) : evCallFz T (evFL T) 18 args S = lendZ (evFL T 18) S [[0], [0]] (lendAll S [[0], [3], [0], [0], [0]] args) := evCallFz0 fn18 rfl rfl args S
attribute [go_sem] call18 callz18
theorem e18 (a0 : Int) (a1 : (List Rel)) (a2 : Int) (a3 : Int) (a4 : Int) (r : (Bool × Bool)) (h : m18 a0 a1 a2 a3 a4 = some r) : evFL T 18 [.int .i64 a0, .ts .imm 3 (a1.map encRel), .int .i64 a2, .int .i64 a3, .int .i64 a4] [] = some (.tup [.bool r.1, .bool r.2], []) := by
  unfold m18 at h
  rw [evFL_at fn18 (Nat.le_of_ble_eq_true rfl) rfl (.inr rfl)]
  obtain ⟨v17, q15, h⟩ := bnd_some h
  have w16 := e18_1 a0 a1 a2 a3 a4 v17 q15
  simp only [X18_1] at w16
  try simp -implicitDefEqProofs only [go_sem, Nat.reduceLT, Nat.reduceAdd, Nat.reduceSub, Nat.reduceMul, Nat.reduceEqDiff, Nat.reduceBEq, Nat.reduceLeDiff, Int.reduceToNat, Int.reduceLT, Int.reduceLE, Int.reduceEq, reduceCtorEq, ↓reduceIte] at w16
  try simp -implicitDefEqProofs only [go_sem, Nat.reduceLT, Nat.reduceAdd, Nat.reduceSub, Nat.reduceMul, Nat.reduceEqDiff, Nat.reduceBEq, Nat.reduceLeDiff, Int.reduceToNat, Int.reduceLT, Int.reduceLE, Int.reduceEq, reduceCtorEq, ↓reduceIte, i18, c18, w16]
  cases b18 : (v17 : Bool)
  · replace h := br_f b18 h
    obtain ⟨v28, q26, h⟩ := bnd_some h
    have w27 := e18_2 a1 a2 a3 a4 v28 q26
    simp only [X18_2] at w27
    try simp -implicitDefEqProofs only [go_sem, Nat.reduceLT, Nat.reduceAdd, Nat.reduceSub, Nat.reduceMul, Nat.reduceEqDiff, Nat.reduceBEq, Nat.reduceLeDiff, Int.reduceToNat, Int.reduceLT, Int.reduceLE, Int.reduceEq, reduceCtorEq, ↓reduceIte] at w27
    cases h
    simp -implicitDefEqProofs only [go_sem, Nat.reduceLT, Nat.reduceAdd, Nat.reduceSub, Nat.reduceMul, Nat.reduceEqDiff, Nat.reduceBEq, Nat.reduceLeDiff, Int.reduceToNat, Int.reduceLT, Int.reduceLE, Int.reduceEq, reduceCtorEq, ↓reduceIte, i18, c18, w16, b18, w27]
  · replace h := br_t b18 h
    cases h
    simp -implicitDefEqProofs only [go_sem, Nat.reduceLT, Nat.reduceAdd, Nat.reduceSub, Nat.reduceMul, Nat.reduceEqDiff, Nat.reduceBEq, Nat.reduceLeDiff, Int.reduceToNat, Int.reduceLT, Int.reduceLE, Int.reduceEq, reduceCtorEq, ↓reduceIte, i18, c18, w16, b18]
-- f8 laws.FnValley
def X8_1 (a1 : (List Int)) (r4 : Int) (r9 : Bool) (r10 : Bool) (r13 : Bool) (r14 : Bool) (r5 : (List Rel)) (r6 : (List Int)) (o : Bool) : Ex × Fr × St :=
  (.normal, frOf 188 (upd (upd (upd (upd (upd (upd (upd anyF 1 (.ts .imm 1 (a1.map encIntu8))) 5 (.int .i64 r4)) 6 (.sl 0 0 r5.length)) 7 (.sl 1 0 r6.length)) 8 (.bool r9)) 9 (.bool r10)) 68 (.bool o)), [some ⟨.arr, 3, r5.map encRel⟩, some ⟨.arr, 1, r6.map encInt⟩])
theorem e8_1 (a1 : (List Int)) (r4 : Int) (r9 : Bool) (r10 : Bool) (r13 : Bool) (r14 : Bool) (r5 : (List Rel)) (r6 : (List Int)) (o : Bool) (h : m8_1 r9 r10 r13 r14 = some o) : evCL T 0 k8_1 (frOf 188 (upd (upd (upd (upd (upd (upd (upd (upd anyF 1 (.ts .imm 1 (a1.map encIntu8))) 5 (.int .i64 r4)) 6 (.sl 0 0 r5.length)) 7 (.sl 1 0 r6.length)) 8 (.bool r9)) 9 (.bool r10)) 10 (.bool r13)) 11 (.bool r14))) [some ⟨.arr, 3, r5.map encRel⟩, some ⟨.arr, 1, r6.map encInt⟩] = some (X8_1 a1 r4 r9 r10 r13 r14 r5 r6 o) := by
  unfold m8_1 at h
  try simp -implicitDefEqProofs only [go_sem, Nat.reduceLT, Nat.reduceAdd, Nat.reduceSub, Nat.reduceMul, Nat.reduceEqDiff, Nat.reduceBEq, Nat.reduceLeDiff, Int.reduceToNat, Int.reduceLT, Int.reduceLE, Int.reduceEq, reduceCtorEq, ↓reduceIte, X8_1, k8_1]
  cases b15 : (eqB r10 r14 : Bool)
  · replace h := br_f b15 h
    cases h
    simp -implicitDefEqProofs only [go_sem, Nat.reduceLT, Nat.reduceAdd, Nat.reduceSub, Nat.reduceMul, Nat.reduceEqDiff, Nat.reduceBEq, Nat.reduceLeDiff, Int.reduceToNat, Int.reduceLT, Int.reduceLE, Int.reduceEq, reduceCtorEq, ↓reduceIte, X8_1, k8_1, b15]
  · replace h := br_t b15 h
    cases h
    simp -implicitDefEqProofs only [go_sem, Nat.reduceLT, Nat.reduceAdd, Nat.reduceSub, Nat.reduceMul, Nat.reduceEqDiff, Nat.reduceBEq, Nat.reduceLeDiff, Int.reduceToNat, Int.reduceLT, Int.reduceLE, Int.reduceEq, reduceCtorEq, ↓reduceIte, X8_1, k8_1, b15]
def X8_5 (a1 : (List Int)) (r4 : Int) (r9 : Bool) (s44 : Bool) (s45 : Int) (r64 : Bool) (r5 : (List Rel)) (r6 : (List Int)) (o : Bool) : Ex × Fr × St :=
  (.normal, frOf 188 (upd (upd (upd (upd (upd (upd (upd anyF 1 (.ts .imm 1 (a1.map encIntu8))) 5 (.int .i64 r4)) 6 (.sl 0 0 r5.length)) 7 (.sl 1 0 r6.length)) 8 (.bool r9)) 12 (.bool o)) 13 (.int .i64 s45)), [some ⟨.arr, 3, r5.map encRel⟩, some ⟨.arr, 1, r6.map encInt⟩])
theorem e8_5 (a1 : (List Int)) (r4 : Int) (r9 : Bool) (s44 : Bool) (s45 : Int) (r64 : Bool) (r5 : (List Rel)) (r6 : (List Int)) (o : Bool) (h : m8_5 s44 r64 = some o) : evCL T 0 k8_5 (frOf 188 (upd (upd (upd (upd (upd (upd (upd (upd anyF 1 (.ts .imm 1 (a1.map encIntu8))) 5 (.int .i64 r4)) 6 (.sl 0 0 r5.length)) 7 (.sl 1 0 r6.length)) 8 (.bool r9)) 12 (.bool s44)) 13 (.int .i64 s45)) 14 (.bool r64))) [some ⟨.arr, 3, r5.map encRel⟩, some ⟨.arr, 1, r6.map encInt⟩] = some (X8_5 a1 r4 r9 s44 s45 r64 r5 r6 o) := by
  unfold m8_5 at h
  try simp -implicitDefEqProofs only [go_sem, Nat.reduceLT, Nat.reduceAdd, Nat.reduceSub, Nat.reduceMul, Nat.reduceEqDiff, Nat.reduceBEq, Nat.reduceLeDiff, Int.reduceToNat, Int.reduceLT, Int.reduceLE, Int.reduceEq, reduceCtorEq, ↓reduceIte, X8_5, k8_5]
  cases b67 : (s44 : Bool)
  · replace h := br_f b67 h
    cases h
    simp -implicitDefEqProofs only [go_sem, Nat.reduceLT, Nat.reduceAdd, Nat.reduceSub, Nat.reduceMul, Nat.reduceEqDiff, Nat.reduceBEq, Nat.reduceLeDiff, Int.reduceToNat, Int.reduceLT, Int.reduceLE, Int.reduceEq, reduceCtorEq, ↓reduceIte, X8_5, k8_5, b67]
  · replace h := br_t b67 h
    cases h
    simp -implicitDefEqProofs only [go_sem, Nat.reduceLT, Nat.reduceAdd, Nat.reduceSub, Nat.reduceMul, Nat.reduceEqDiff, Nat.reduceBEq, Nat.reduceLeDiff, Int.reduceToNat, Int.reduceLT, Int.reduceLE, Int.reduceEq, reduceCtorEq, ↓reduceIte, X8_5, k8_5, b67]
def X8_3 (a1 : (List Int)) (r4 : Int) (r9 : Bool) (r5 : (List Rel)) (r6 : (List Int)) (o : (Bool ⊕ Unit)) : Ex × Fr × St :=
  match o with
  | .inl o => (.exit 0, frOf 188 (upd (upd (upd anyF 1 (.ts .imm 1 (a1.map encIntu8))) 8 (.bool r9)) 12 (.bool o)), [])
  | .inr o => (.ret, frOf 188 (upd anyF 4 (.bool false)), [])
def E8_3 (a1 : (List Int)) (r4 : Int) (r9 : Bool) (r5 : (List Rel)) (r6 : (List Int)) (s : (Bool × Int)) : Fr × St := (frOf 188 (upd (upd (upd (upd (upd (upd (upd anyF 1 (.ts .imm 1 (a1.map encIntu8))) 5 (.int .i64 r4)) 6 (.sl 0 0 r5.length)) 7 (.sl 1 0 r6.length)) 8 (.bool r9)) 12 (.bool s.1)) 13 (.int .i64 s.2)), [some ⟨.arr, 3, r5.map encRel⟩, some ⟨.arr, 1, r6.map encInt⟩])
theorem b8_3 (a1 : (List Int)) (r4 : Int) (r9 : Bool) (r5 : (List Rel)) (r6 : (List Int)) (s : (Bool × Int)) (o : Ctl (Bool × Int) (Bool ⊕ Unit)) (h : m8_3b r4 r5 r6 s = some o) : evCL T 0 k8_3b (E8_3 a1 r4 r9 r5 r6 s).1 (E8_3 a1 r4 r9 r5 r6 s).2 = some (ctlX (E8_3 a1 r4 r9 r5 r6) (X8_3 a1 r4 r9 r5 r6) o) := by
  unfold m8_3b at h
  obtain ⟨s44, s45⟩ := s
  replace h := sel2_some h
  try simp -implicitDefEqProofs only [go_sem, Nat.reduceLT, Nat.reduceAdd, Nat.reduceSub, Nat.reduceMul, Nat.reduceEqDiff, Nat.reduceBEq, Nat.reduceLeDiff, Int.reduceToNat, Int.reduceLT, Int.reduceLE, Int.reduceEq, reduceCtorEq, ↓reduceIte, E8_3, X8_3, k8_3b]
  cases b46 : (ltI (wadd .i64 s45 1) (↑r6.length : Int) : Bool)
  · replace h := br_f b46 h
    cases h
    simp -implicitDefEqProofs only [go_sem, Nat.reduceLT, Nat.reduceAdd, Nat.reduceSub, Nat.reduceMul, Nat.reduceEqDiff, Nat.reduceBEq, Nat.reduceLeDiff, Int.reduceToNat, Int.reduceLT, Int.reduceLE, Int.reduceEq, reduceCtorEq, ↓reduceIte, E8_3, X8_3, k8_3b, b46]
  · replace h := br_t b46 h
    obtain ⟨x47, q48, h⟩ := bnd_some h
    obtain ⟨g49, g50, g51⟩ := idx_row encInt q48
    try simp -implicitDefEqProofs only [go_sem, Nat.reduceLT, Nat.reduceAdd, Nat.reduceSub, Nat.reduceMul, Nat.reduceEqDiff, Nat.reduceBEq, Nat.reduceLeDiff, Int.reduceToNat, Int.reduceLT, Int.reduceLE, Int.reduceEq, reduceCtorEq, ↓reduceIte] at g50
    try simp -implicitDefEqProofs only [go_sem, Nat.reduceLT, Nat.reduceAdd, Nat.reduceSub, Nat.reduceMul, Nat.reduceEqDiff, Nat.reduceBEq, Nat.reduceLeDiff, Int.reduceToNat, Int.reduceLT, Int.reduceLE, Int.reduceEq, reduceCtorEq, ↓reduceIte] at g51
    obtain ⟨x52, q53, h⟩ := bnd_some h
    obtain ⟨g54, g55, g56⟩ := idx_row encInt q53
    try simp -implicitDefEqProofs only [go_sem, Nat.reduceLT, Nat.reduceAdd, Nat.reduceSub, Nat.reduceMul, Nat.reduceEqDiff, Nat.reduceBEq, Nat.reduceLeDiff, Int.reduceToNat, Int.reduceLT, Int.reduceLE, Int.reduceEq, reduceCtorEq, ↓reduceIte] at g55
    try simp -implicitDefEqProofs only [go_sem, Nat.reduceLT, Nat.reduceAdd, Nat.reduceSub, Nat.reduceMul, Nat.reduceEqDiff, Nat.reduceBEq, Nat.reduceLeDiff, Int.reduceToNat, Int.reduceLT, Int.reduceLE, Int.reduceEq, reduceCtorEq, ↓reduceIte] at g56
    obtain ⟨x57, q58, h⟩ := bnd_some h
    obtain ⟨g59, g60, g61⟩ := idx_row encInt q58
    try simp -implicitDefEqProofs only [go_sem, Nat.reduceLT, Nat.reduceAdd, Nat.reduceSub, Nat.reduceMul, Nat.reduceEqDiff, Nat.reduceBEq, Nat.reduceLeDiff, Int.reduceToNat, Int.reduceLT, Int.reduceLE, Int.reduceEq, reduceCtorEq, ↓reduceIte] at g60
    try simp -implicitDefEqProofs only [go_sem, Nat.reduceLT, Nat.reduceAdd, Nat.reduceSub, Nat.reduceMul, Nat.reduceEqDiff, Nat.reduceBEq, Nat.reduceLeDiff, Int.reduceToNat, Int.reduceLT, Int.reduceLE, Int.reduceEq, reduceCtorEq, ↓reduceIte] at g61
    obtain ⟨⟨r64, r65⟩, q62, h⟩ := bnd_some h
    replace h := sel2_some h
    have w63 := e19 r4 r5 x47 x52 x57 (r64, r65) q62
    try simp -implicitDefEqProofs only [go_sem, Nat.reduceLT, Nat.reduceAdd, Nat.reduceSub, Nat.reduceMul, Nat.reduceEqDiff, Nat.reduceBEq, Nat.reduceLeDiff, Int.reduceToNat, Int.reduceLT, Int.reduceLE, Int.reduceEq, reduceCtorEq, ↓reduceIte] at w63
    try simp -implicitDefEqProofs only [go_sem, Nat.reduceLT, Nat.reduceAdd, Nat.reduceSub, Nat.reduceMul, Nat.reduceEqDiff, Nat.reduceBEq, Nat.reduceLeDiff, Int.reduceToNat, Int.reduceLT, Int.reduceLE, Int.reduceEq, reduceCtorEq, ↓reduceIte, E8_3, X8_3, k8_3b, b46, g49, g50, g51, g54, g55, g56, g59, g60, g61, w63]
    cases b66 : (r65 : Bool)
    · replace h := br_f b66 h
      cases h
      simp -implicitDefEqProofs only [go_sem, Nat.reduceLT, Nat.reduceAdd, Nat.reduceSub, Nat.reduceMul, Nat.reduceEqDiff, Nat.reduceBEq, Nat.reduceLeDiff, Int.reduceToNat, Int.reduceLT, Int.reduceLE, Int.reduceEq, reduceCtorEq, ↓reduceIte, E8_3, X8_3, k8_3b, b46, g49, g50, g51, g54, g55, g56, g59, g60, g61, w63, b66]
    · replace h := br_t b66 h
      obtain ⟨v70, q68, h⟩ := bnd_some h
      have w69 := e8_5 a1 r4 r9 s44 s45 r64 r5 r6 v70 q68
      simp only [X8_5] at w69
      try simp -implicitDefEqProofs only [go_sem, Nat.reduceLT, Nat.reduceAdd, Nat.reduceSub, Nat.reduceMul, Nat.reduceEqDiff, Nat.reduceBEq, Nat.reduceLeDiff, Int.reduceToNat, Int.reduceLT, Int.reduceLE, Int.reduceEq, reduceCtorEq, ↓reduceIte] at w69
      cases h
      simp -implicitDefEqProofs only [go_sem, Nat.reduceLT, Nat.reduceAdd, Nat.reduceSub, Nat.reduceMul, Nat.reduceEqDiff, Nat.reduceBEq, Nat.reduceLeDiff, Int.reduceToNat, Int.reduceLT, Int.reduceLE, Int.reduceEq, reduceCtorEq, ↓reduceIte, E8_3, X8_3, k8_3b, b46, g49, g50, g51, g54, g55, g56, g59, g60, g61, w63, b66, w69]
theorem e8_3 (a1 : (List Int)) (r4 : Int) (r9 : Bool) (r5 : (List Rel)) (r6 : (List Int)) (s : (Bool × Int)) (o : (Bool ⊕ Unit)) (h : loopP (m8_3b r4 r5 r6) s = some o) : evCL T 0 (.loop k8_3b) (E8_3 a1 r4 r9 r5 r6 s).1 (E8_3 a1 r4 r9 r5 r6 s).2 = some (X8_3 a1 r4 r9 r5 r6 o) :=
  loop_walk (E := E8_3 a1 r4 r9 r5 r6) (X := X8_3 a1 r4 r9 r5 r6) (by intro b; rcases b with b | b <;> (simp only [X8_3]; nofun)) (b8_3 a1 r4 r9 r5 r6) s o h
def X8_2 (a1 : (List Int)) (r4 : Int) (r9 : Bool) (r10 : Bool) (r5 : (List Rel)) (r6 : (List Int)) (o : (Unit ⊕ Unit)) : Ex × Fr × St :=
  match o with
  | .inl o => (.normal, frOf 188 (upd anyF 1 (.ts .imm 1 (a1.map encIntu8))), [])
  | .inr o => (.ret, frOf 188 (upd anyF 4 (.bool false)), [])
theorem e8_2 (a1 : (List Int)) (r4 : Int) (r9 : Bool) (r10 : Bool) (r5 : (List Rel)) (r6 : (List Int)) (o : (Unit ⊕ Unit)) (h : m8_2 r4 r9 r10 r5 r6 = some o) : evCL T 0 k8_2 (frOf 188 (upd (upd (upd (upd (upd (upd anyF 1 (.ts .imm 1 (a1.map encIntu8))) 5 (.int .i64 r4)) 6 (.sl 0 0 r5.length)) 7 (.sl 1 0 r6.length)) 8 (.bool r9)) 69 (.bool r10))) [some ⟨.arr, 3, r5.map encRel⟩, some ⟨.arr, 1, r6.map encInt⟩] = some (X8_2 a1 r4 r9 r10 r5 r6 o) := by
  unfold m8_2 at h
  try simp -implicitDefEqProofs only [go_sem, Nat.reduceLT, Nat.reduceAdd, Nat.reduceSub, Nat.reduceMul, Nat.reduceEqDiff, Nat.reduceBEq, Nat.reduceLeDiff, Int.reduceToNat, Int.reduceLT, Int.reduceLE, Int.reduceEq, reduceCtorEq, ↓reduceIte, X8_2, k8_2]
  cases b20 : (r10 : Bool)
  · replace h := br_f b20 h
    cases h
    simp -implicitDefEqProofs only [go_sem, Nat.reduceLT, Nat.reduceAdd, Nat.reduceSub, Nat.reduceMul, Nat.reduceEqDiff, Nat.reduceBEq, Nat.reduceLeDiff, Int.reduceToNat, Int.reduceLT, Int.reduceLE, Int.reduceEq, reduceCtorEq, ↓reduceIte, X8_2, k8_2, b20]
  · replace h := br_t b20 h
    try simp -implicitDefEqProofs only [go_sem, Nat.reduceLT, Nat.reduceAdd, Nat.reduceSub, Nat.reduceMul, Nat.reduceEqDiff, Nat.reduceBEq, Nat.reduceLeDiff, Int.reduceToNat, Int.reduceLT, Int.reduceLE, Int.reduceEq, reduceCtorEq, ↓reduceIte, X8_2, k8_2, b20]
    obtain ⟨o, q71, h⟩ := bnd_some h
    rcases o with v73 | ⟨⟩
    · replace h := selS_l h
      have w72 := e8_3 a1 r4 r9 r5 r6 (true, 1) (.inl v73) q71
      simp only [E8_3, X8_3] at w72
      try simp -implicitDefEqProofs only [go_sem, Nat.reduceLT, Nat.reduceAdd, Nat.reduceSub, Nat.reduceMul, Nat.reduceEqDiff, Nat.reduceBEq, Nat.reduceLeDiff, Int.reduceToNat, Int.reduceLT, Int.reduceLE, Int.reduceEq, reduceCtorEq, ↓reduceIte] at w72
      try simp -implicitDefEqProofs only [go_sem, Nat.reduceLT, Nat.reduceAdd, Nat.reduceSub, Nat.reduceMul, Nat.reduceEqDiff, Nat.reduceBEq, Nat.reduceLeDiff, Int.reduceToNat, Int.reduceLT, Int.reduceLE, Int.reduceEq, reduceCtorEq, ↓reduceIte, X8_2, k8_2, b20, w72]
      cases b74 : (eqB v73 r9 : Bool)
      · replace h := br_f b74 h
        cases h
        simp -implicitDefEqProofs only [go_sem, Nat.reduceLT, Nat.reduceAdd, Nat.reduceSub, Nat.reduceMul, Nat.reduceEqDiff, Nat.reduceBEq, Nat.reduceLeDiff, Int.reduceToNat, Int.reduceLT, Int.reduceLE, Int.reduceEq, reduceCtorEq, ↓reduceIte, X8_2, k8_2, b20, w72, b74]
      · replace h := br_t b74 h
        cases h
        simp -implicitDefEqProofs only [go_sem, Nat.reduceLT, Nat.reduceAdd, Nat.reduceSub, Nat.reduceMul, Nat.reduceEqDiff, Nat.reduceBEq, Nat.reduceLeDiff, Int.reduceToNat, Int.reduceLT, Int.reduceLE, Int.reduceEq, reduceCtorEq, ↓reduceIte, X8_2, k8_2, b20, w72, b74]
    · replace h := selS_r h
      have w72 := e8_3 a1 r4 r9 r5 r6 (true, 1) (.inr ()) q71
      simp only [E8_3, X8_3] at w72
      try simp -implicitDefEqProofs only [go_sem, Nat.reduceLT, Nat.reduceAdd, Nat.reduceSub, Nat.reduceMul, Nat.reduceEqDiff, Nat.reduceBEq, Nat.reduceLeDiff, Int.reduceToNat, Int.reduceLT, Int.reduceLE, Int.reduceEq, reduceCtorEq, ↓reduceIte] at w72
      cases h
      simp -implicitDefEqProofs only [go_sem, Nat.reduceLT, Nat.reduceAdd, Nat.reduceSub, Nat.reduceMul, Nat.reduceEqDiff, Nat.reduceBEq, Nat.reduceLeDiff, Int.reduceToNat, Int.reduceLT, Int.reduceLE, Int.reduceEq, reduceCtorEq, ↓reduceIte, X8_2, k8_2, b20, w72]
def X8_6 (a1 : (List Int)) (r79 : Int) (r81 : Int) (r82 : Int) (r85 : Int) (r86 : Bool) (r89 : Int) (r90 : Bool) (r80 : (List Rel)) (o : Bool) : Ex × Fr × St :=
  (.normal, frOf 188 (upd (upd (upd (upd (upd (upd (upd (upd anyF 1 (.ts .imm 1 (a1.map encIntu8))) 16 (.int .i64 r79)) 17 (.sl 0 0 r80.length)) 18 (.int .i64 r81)) 19 (.int .i64 r82)) 20 (.int .i64 r85)) 21 (.bool r86)) 136 (.bool o)), [some ⟨.arr, 3, r80.map encRel⟩])
theorem e8_6 (a1 : (List Int)) (r79 : Int) (r81 : Int) (r82 : Int) (r85 : Int) (r86 : Bool) (r89 : Int) (r90 : Bool) (r80 : (List Rel)) (o : Bool) (h : m8_6 r85 r86 r89 r90 = some o) : evCL T 0 k8_6 (frOf 188 (upd (upd (upd (upd (upd (upd (upd (upd (upd anyF 1 (.ts .imm 1 (a1.map encIntu8))) 16 (.int .i64 r79)) 17 (.sl 0 0 r80.length)) 18 (.int .i64 r81)) 19 (.int .i64 r82)) 20 (.int .i64 r85)) 21 (.bool r86)) 22 (.int .i64 r89)) 23 (.bool r90))) [some ⟨.arr, 3, r80.map encRel⟩] = some (X8_6 a1 r79 r81 r82 r85 r86 r89 r90 r80 o) := by
  unfold m8_6 at h
  try simp -implicitDefEqProofs only [go_sem, Nat.reduceLT, Nat.reduceAdd, Nat.reduceSub, Nat.reduceMul, Nat.reduceEqDiff, Nat.reduceBEq, Nat.reduceLeDiff, Int.reduceToNat, Int.reduceLT, Int.reduceLE, Int.reduceEq, reduceCtorEq, ↓reduceIte, X8_6, k8_6]
  cases b91 : (eqB r86 r90 : Bool)
  · replace h := br_f b91 h
    cases h
    simp -implicitDefEqProofs only [go_sem, Nat.reduceLT, Nat.reduceAdd, Nat.reduceSub, Nat.reduceMul, Nat.reduceEqDiff, Nat.reduceBEq, Nat.reduceLeDiff, Int.reduceToNat, Int.reduceLT, Int.reduceLE, Int.reduceEq, reduceCtorEq, ↓reduceIte, X8_6, k8_6, b91]
  · replace h := br_t b91 h
    cases h
    simp -implicitDefEqProofs only [go_sem, Nat.reduceLT, Nat.reduceAdd, Nat.reduceSub, Nat.reduceMul, Nat.reduceEqDiff, Nat.reduceBEq, Nat.reduceLeDiff, Int.reduceToNat, Int.reduceLT, Int.reduceLE, Int.reduceEq, reduceCtorEq, ↓reduceIte, X8_6, k8_6, b91]
def X8_8 (a1 : (List Int)) (r85 : Int) (r99 : Int) (r100 : Bool) (o : Bool) : Ex × Fr × St :=
  (.normal, frOf 188 (upd (upd anyF 1 (.ts .imm 1 (a1.map encIntu8))) 153 (.bool o)), [])
theorem e8_8 (a1 : (List Int)) (r85 : Int) (r99 : Int) (r100 : Bool) (o : Bool) (h : m8_8 r85 r99 r100 = some o) : evCL T 0 k8_8 (frOf 188 (upd (upd (upd (upd anyF 1 (.ts .imm 1 (a1.map encIntu8))) 20 (.int .i64 r85)) 24 (.int .i64 r99)) 25 (.bool r100))) [] = some (X8_8 a1 r85 r99 r100 o) := by
  unfold m8_8 at h
  try simp -implicitDefEqProofs only [go_sem, Nat.reduceLT, Nat.reduceAdd, Nat.reduceSub, Nat.reduceMul, Nat.reduceEqDiff, Nat.reduceBEq, Nat.reduceLeDiff, Int.reduceToNat, Int.reduceLT, Int.reduceLE, Int.reduceEq, reduceCtorEq, ↓reduceIte, X8_8, k8_8]
  cases b101 : (r100 : Bool)
  · replace h := br_f b101 h
    cases h
    simp -implicitDefEqProofs only [go_sem, Nat.reduceLT, Nat.reduceAdd, Nat.reduceSub, Nat.reduceMul, Nat.reduceEqDiff, Nat.reduceBEq, Nat.reduceLeDiff, Int.reduceToNat, Int.reduceLT, Int.reduceLE, Int.reduceEq, reduceCtorEq, ↓reduceIte, X8_8, k8_8, b101]
  · replace h := br_t b101 h
    cases h
    simp -implicitDefEqProofs only [go_sem, Nat.reduceLT, Nat.reduceAdd, Nat.reduceSub, Nat.reduceMul, Nat.reduceEqDiff, Nat.reduceBEq, Nat.reduceLeDiff, Int.reduceToNat, Int.reduceLT, Int.reduceLE, Int.reduceEq, reduceCtorEq, ↓reduceIte, X8_8, k8_8, b101]
def X8_7 (a1 : (List Int)) (r79 : Int) (r81 : Int) (r82 : Int) (r85 : Int) (r86 : Bool) (r80 : (List Rel)) (o : (Unit ⊕ Unit)) : Ex × Fr × St :=
  match o with
  | .inl o => (.normal, frOf 188 (upd anyF 1 (.ts .imm 1 (a1.map encIntu8))), [])
  | .inr o => (.ret, frOf 188 (upd anyF 4 (.bool false)), [])
theorem e8_7 (a1 : (List Int)) (r79 : Int) (r81 : Int) (r82 : Int) (r85 : Int) (r86 : Bool) (r80 : (List Rel)) (o : (Unit ⊕ Unit)) (h : m8_7 r79 r81 r82 r85 r86 r80 = some o) : evCL T 0 k8_7 (frOf 188 (upd (upd (upd (upd (upd (upd (upd anyF 1 (.ts .imm 1 (a1.map encIntu8))) 16 (.int .i64 r79)) 17 (.sl 0 0 r80.length)) 18 (.int .i64 r81)) 19 (.int .i64 r82)) 20 (.int .i64 r85)) 137 (.bool r86))) [some ⟨.arr, 3, r80.map encRel⟩] = some (X8_7 a1 r79 r81 r82 r85 r86 r80 o) := by
  unfold m8_7 at h
  try simp -implicitDefEqProofs only [go_sem, Nat.reduceLT, Nat.reduceAdd, Nat.reduceSub, Nat.reduceMul, Nat.reduceEqDiff, Nat.reduceBEq, Nat.reduceLeDiff, Int.reduceToNat, Int.reduceLT, Int.reduceLE, Int.reduceEq, reduceCtorEq, ↓reduceIte, X8_7, k8_7]
  cases b96 : (r86 : Bool)
  · replace h := br_f b96 h
    cases h
    simp -implicitDefEqProofs only [go_sem, Nat.reduceLT, Nat.reduceAdd, Nat.reduceSub, Nat.reduceMul, Nat.reduceEqDiff, Nat.reduceBEq, Nat.reduceLeDiff, Int.reduceToNat, Int.reduceLT, Int.reduceLE, Int.reduceEq, reduceCtorEq, ↓reduceIte, X8_7, k8_7, b96]
  · replace h := br_t b96 h
    obtain ⟨⟨r99, r100⟩, q97, h⟩ := bnd_some h
    replace h := sel2_some h
    have w98 := e17 r79 r80 r82 r81 (r99, r100) q97
    try simp -implicitDefEqProofs only [go_sem, Nat.reduceLT, Nat.reduceAdd, Nat.reduceSub, Nat.reduceMul, Nat.reduceEqDiff, Nat.reduceBEq, Nat.reduceLeDiff, Int.reduceToNat, Int.reduceLT, Int.reduceLE, Int.reduceEq, reduceCtorEq, ↓reduceIte] at w98
    obtain ⟨v104, q102, h⟩ := bnd_some h
    have w103 := e8_8 a1 r85 r99 r100 v104 q102
    simp only [X8_8] at w103
    try simp -implicitDefEqProofs only [go_sem, Nat.reduceLT, Nat.reduceAdd, Nat.reduceSub, Nat.reduceMul, Nat.reduceEqDiff, Nat.reduceBEq, Nat.reduceLeDiff, Int.reduceToNat, Int.reduceLT, Int.reduceLE, Int.reduceEq, reduceCtorEq, ↓reduceIte] at w103
    try simp -implicitDefEqProofs only [go_sem, Nat.reduceLT, Nat.reduceAdd, Nat.reduceSub, Nat.reduceMul, Nat.reduceEqDiff, Nat.reduceBEq, Nat.reduceLeDiff, Int.reduceToNat, Int.reduceLT, Int.reduceLE, Int.reduceEq, reduceCtorEq, ↓reduceIte, X8_7, k8_7, b96, w98, w103]
    cases b105 : (v104 : Bool)
    · replace h := br_f b105 h
      cases h
      simp -implicitDefEqProofs only [go_sem, Nat.reduceLT, Nat.reduceAdd, Nat.reduceSub, Nat.reduceMul, Nat.reduceEqDiff, Nat.reduceBEq, Nat.reduceLeDiff, Int.reduceToNat, Int.reduceLT, Int.reduceLE, Int.reduceEq, reduceCtorEq, ↓reduceIte, X8_7, k8_7, b96, w98, w103, b105]
    · replace h := br_t b105 h
      cases h
      simp -implicitDefEqProofs only [go_sem, Nat.reduceLT, Nat.reduceAdd, Nat.reduceSub, Nat.reduceMul, Nat.reduceEqDiff, Nat.reduceBEq, Nat.reduceLeDiff, Int.reduceToNat, Int.reduceLT, Int.reduceLE, Int.reduceEq, reduceCtorEq, ↓reduceIte, X8_7, k8_7, b96, w98, w103, b105]
def X8_9 (r117 : Bool) (r118 : Bool) (r121 : Bool) (r122 : Bool) (o : Bool) : Ex × Fr × St :=
  (.normal, frOf 188 (upd anyF 4 (.bool o)), [])
theorem e8_9 (r117 : Bool) (r118 : Bool) (r121 : Bool) (r122 : Bool) (o : Bool) (h : m8_9 r117 r118 r121 r122 = some o) : evCL T 0 k8_9 (frOf 188 (upd (upd (upd (upd anyF 31 (.bool r117)) 32 (.bool r118)) 33 (.bool r121)) 34 (.bool r122))) [] = some (X8_9 r117 r118 r121 r122 o) := by
  unfold m8_9 at h
  try simp -implicitDefEqProofs only [go_sem, Nat.reduceLT, Nat.reduceAdd, Nat.reduceSub, Nat.reduceMul, Nat.reduceEqDiff, Nat.reduceBEq, Nat.reduceLeDiff, Int.reduceToNat, Int.reduceLT, Int.reduceLE, Int.reduceEq, reduceCtorEq, ↓reduceIte, X8_9, k8_9]
  cases b123 : (eqB r118 r122 : Bool)
  · replace h := br_f b123 h
    cases h
    simp -implicitDefEqProofs only [go_sem, Nat.reduceLT, Nat.reduceAdd, Nat.reduceSub, Nat.reduceMul, Nat.reduceEqDiff, Nat.reduceBEq, Nat.reduceLeDiff, Int.reduceToNat, Int.reduceLT, Int.reduceLE, Int.reduceEq, reduceCtorEq, ↓reduceIte, X8_9, k8_9, b123]
  · replace h := br_t b123 h
    cases h
    simp -implicitDefEqProofs only [go_sem, Nat.reduceLT, Nat.reduceAdd, Nat.reduceSub, Nat.reduceMul, Nat.reduceEqDiff, Nat.reduceBEq, Nat.reduceLeDiff, Int.reduceToNat, Int.reduceLT, Int.reduceLE, Int.reduceEq, reduceCtorEq, ↓reduceIte, X8_9, k8_9, b123]
theorem call8 (args : List AV) (S : St) : evCall T (evFL T) 8 args S = lendC (evFL T 8) S (lendAll S [[1], [1]] args) := evCall0 fn8 rfl rfl args S
theorem callz8 (args : List AV) (S : St) : evCallFz T (evFL T) 8 args S = lendZ (evFL T 8) S [[0]] (lendAll S [[1], [1]] args) := evCallFz0 fn8 rfl rfl args S
attribute [go_sem] call8 callz8
theorem e8 (a0 : (List Int)) (a1 : (List Int)) (r : Bool) (h : m8 a0 a1 = some r) : evFL T 8 [.ts .imm 1 (a0.map encIntu8), .ts .imm 1 (a1.map encIntu8)] [] = some (.bool r, []) := by
  unfold m8 at h
  rw [evFL_at fn8 (Nat.le_of_ble_eq_true rfl) rfl (.inr rfl)]
  try simp -implicitDefEqProofs only [go_sem, Nat.reduceLT, Nat.reduceAdd, Nat.reduceSub, Nat.reduceMul, Nat.reduceEqDiff, Nat.reduceBEq, Nat.reduceLeDiff, Int.reduceToNat, Int.reduceLT, Int.reduceLE, Int.reduceEq, reduceCtorEq, ↓reduceIte, i8, c8]
  cases b1 : (ltI 1048576 (wadd .i64 (↑a0.length : Int) (↑a1.length : Int)) : Bool)
  · replace h := br_f b1 h
    obtain ⟨⟨r4, r5, r6⟩, q2, h⟩ := bnd_some h
    replace h := sel3_some h
    have w3 := e26 a0 (r4, r5, r6) q2
    try simp -implicitDefEqProofs only [go_sem, Nat.reduceLT, Nat.reduceAdd, Nat.reduceSub, Nat.reduceMul, Nat.reduceEqDiff, Nat.reduceBEq, Nat.reduceLeDiff, Int.reduceToNat, Int.reduceLT, Int.reduceLE, Int.reduceEq, reduceCtorEq, ↓reduceIte] at w3
    obtain ⟨⟨r9, r10⟩, q7, h⟩ := bnd_some h
    replace h := sel2_some h
    have w8 := e24 r4 r5 r6 (r9, r10) q7
    try simp -implicitDefEqProofs only [go_sem, Nat.reduceLT, Nat.reduceAdd, Nat.reduceSub, Nat.reduceMul, Nat.reduceEqDiff, Nat.reduceBEq, Nat.reduceLeDiff, Int.reduceToNat, Int.reduceLT, Int.reduceLE, Int.reduceEq, reduceCtorEq, ↓reduceIte] at w8
    obtain ⟨⟨r13, r14⟩, q11, h⟩ := bnd_some h
    replace h := sel2_some h
    have w12 := e22 r4 r5 r6 (r13, r14) q11
    try simp -implicitDefEqProofs only [go_sem, Nat.reduceLT, Nat.reduceAdd, Nat.reduceSub, Nat.reduceMul, Nat.reduceEqDiff, Nat.reduceBEq, Nat.reduceLeDiff, Int.reduceToNat, Int.reduceLT, Int.reduceLE, Int.reduceEq, reduceCtorEq, ↓reduceIte] at w12
    obtain ⟨v18, q16, h⟩ := bnd_some h
    have w17 := e8_1 a1 r4 r9 r10 r13 r14 r5 r6 v18 q16
    simp only [X8_1] at w17
    try simp -implicitDefEqProofs only [go_sem, Nat.reduceLT, Nat.reduceAdd, Nat.reduceSub, Nat.reduceMul, Nat.reduceEqDiff, Nat.reduceBEq, Nat.reduceLeDiff, Int.reduceToNat, Int.reduceLT, Int.reduceLE, Int.reduceEq, reduceCtorEq, ↓reduceIte] at w17
    try simp -implicitDefEqProofs only [go_sem, Nat.reduceLT, Nat.reduceAdd, Nat.reduceSub, Nat.reduceMul, Nat.reduceEqDiff, Nat.reduceBEq, Nat.reduceLeDiff, Int.reduceToNat, Int.reduceLT, Int.reduceLE, Int.reduceEq, reduceCtorEq, ↓reduceIte, i8, c8, b1, w3, w8, w12, w17]
    cases b19 : (v18 : Bool)
    · replace h := br_f b19 h
      try simp -implicitDefEqProofs only [go_sem, Nat.reduceLT, Nat.reduceAdd, Nat.reduceSub, Nat.reduceMul, Nat.reduceEqDiff, Nat.reduceBEq, Nat.reduceLeDiff, Int.reduceToNat, Int.reduceLT, Int.reduceLE, Int.reduceEq, reduceCtorEq, ↓reduceIte, i8, c8, b1, w3, w8, w12, w17, b19]
      obtain ⟨o, q75, h⟩ := bnd_some h
      rcases o with ⟨⟩ | ⟨⟩
      · replace h := selS_l h
        have w76 := e8_2 a1 r4 r9 r10 r5 r6 (.inl ()) q75
        simp only [X8_2] at w76
        try simp -implicitDefEqProofs only [go_sem, Nat.reduceLT, Nat.reduceAdd, Nat.reduceSub, Nat.reduceMul, Nat.reduceEqDiff, Nat.reduceBEq, Nat.reduceLeDiff, Int.reduceToNat, Int.reduceLT, Int.reduceLE, Int.reduceEq, reduceCtorEq, ↓reduceIte] at w76
        obtain ⟨⟨r79, r80, r81, r82⟩, q77, h⟩ := bnd_some h
        replace h := sel4_some h
        have w78 := e27 a1 (r79, r80, r81, r82) q77
        try simp -implicitDefEqProofs only [go_sem, Nat.reduceLT, Nat.reduceAdd, Nat.reduceSub, Nat.reduceMul, Nat.reduceEqDiff, Nat.reduceBEq, Nat.reduceLeDiff, Int.reduceToNat, Int.reduceLT, Int.reduceLE, Int.reduceEq, reduceCtorEq, ↓reduceIte] at w78
        obtain ⟨⟨r85, r86⟩, q83, h⟩ := bnd_some h
        replace h := sel2_some h
        have w84 := e17 r79 r80 r81 r82 (r85, r86) q83
        try simp -implicitDefEqProofs only [go_sem, Nat.reduceLT, Nat.reduceAdd, Nat.reduceSub, Nat.reduceMul, Nat.reduceEqDiff, Nat.reduceBEq, Nat.reduceLeDiff, Int.reduceToNat, Int.reduceLT, Int.reduceLE, Int.reduceEq, reduceCtorEq, ↓reduceIte] at w84
        obtain ⟨⟨r89, r90⟩, q87, h⟩ := bnd_some h
        replace h := sel2_some h
        have w88 := e16 r79 r80 r81 r82 (r89, r90) q87
        try simp -implicitDefEqProofs only [go_sem, Nat.reduceLT, Nat.reduceAdd, Nat.reduceSub, Nat.reduceMul, Nat.reduceEqDiff, Nat.reduceBEq, Nat.reduceLeDiff, Int.reduceToNat, Int.reduceLT, Int.reduceLE, Int.reduceEq, reduceCtorEq, ↓reduceIte] at w88
        obtain ⟨v94, q92, h⟩ := bnd_some h
        have w93 := e8_6 a1 r79 r81 r82 r85 r86 r89 r90 r80 v94 q92
        simp only [X8_6] at w93
        try simp -implicitDefEqProofs only [go_sem, Nat.reduceLT, Nat.reduceAdd, Nat.reduceSub, Nat.reduceMul, Nat.reduceEqDiff, Nat.reduceBEq, Nat.reduceLeDiff, Int.reduceToNat, Int.reduceLT, Int.reduceLE, Int.reduceEq, reduceCtorEq, ↓reduceIte] at w93
        try simp -implicitDefEqProofs only [go_sem, Nat.reduceLT, Nat.reduceAdd, Nat.reduceSub, Nat.reduceMul, Nat.reduceEqDiff, Nat.reduceBEq, Nat.reduceLeDiff, Int.reduceToNat, Int.reduceLT, Int.reduceLE, Int.reduceEq, reduceCtorEq, ↓reduceIte, i8, c8, b1, w3, w8, w12, w17, b19, w76, w78, w84, w88, w93]
        cases b95 : (v94 : Bool)
        · replace h := br_f b95 h
          try simp -implicitDefEqProofs only [go_sem, Nat.reduceLT, Nat.reduceAdd, Nat.reduceSub, Nat.reduceMul, Nat.reduceEqDiff, Nat.reduceBEq, Nat.reduceLeDiff, Int.reduceToNat, Int.reduceLT, Int.reduceLE, Int.reduceEq, reduceCtorEq, ↓reduceIte, i8, c8, b1, w3, w8, w12, w17, b19, w76, w78, w84, w88, w93, b95]
          obtain ⟨o, q106, h⟩ := bnd_some h
          rcases o with ⟨⟩ | ⟨⟩
          · replace h := selS_l h
            have w107 := e8_7 a1 r79 r81 r82 r85 r86 r80 (.inl ()) q106
            simp only [X8_7] at w107
            try simp -implicitDefEqProofs only [go_sem, Nat.reduceLT, Nat.reduceAdd, Nat.reduceSub, Nat.reduceMul, Nat.reduceEqDiff, Nat.reduceBEq, Nat.reduceLeDiff, Int.reduceToNat, Int.reduceLT, Int.reduceLE, Int.reduceEq, reduceCtorEq, ↓reduceIte] at w107
            obtain ⟨⟨r110, r111, r112, r113, r114⟩, q108, h⟩ := bnd_some h
            replace h := sel5_some h
            have w109 := e28 a1 (r110, r111, r112, r113, r114) q108
            try simp -implicitDefEqProofs only [go_sem, Nat.reduceLT, Nat.reduceAdd, Nat.reduceSub, Nat.reduceMul, Nat.reduceEqDiff, Nat.reduceBEq, Nat.reduceLeDiff, Int.reduceToNat, Int.reduceLT, Int.reduceLE, Int.reduceEq, reduceCtorEq, ↓reduceIte] at w109
            obtain ⟨⟨r117, r118⟩, q115, h⟩ := bnd_some h
            replace h := sel2_some h
            have w116 := e19 r110 r111 r112 r113 r114 (r117, r118) q115
            try simp -implicitDefEqProofs only [go_sem, Nat.reduceLT, Nat.reduceAdd, Nat.reduceSub, Nat.reduceMul, Nat.reduceEqDiff, Nat.reduceBEq, Nat.reduceLeDiff, Int.reduceToNat, Int.reduceLT, Int.reduceLE, Int.reduceEq, reduceCtorEq, ↓reduceIte] at w116
            obtain ⟨⟨r121, r122⟩, q119, h⟩ := bnd_some h
            replace h := sel2_some h
            have w120 := e18 r110 r111 r112 r113 r114 (r121, r122) q119
            try simp -implicitDefEqProofs only [go_sem, Nat.reduceLT, Nat.reduceAdd, Nat.reduceSub, Nat.reduceMul, Nat.reduceEqDiff, Nat.reduceBEq, Nat.reduceLeDiff, Int.reduceToNat, Int.reduceLT, Int.reduceLE, Int.reduceEq, reduceCtorEq, ↓reduceIte] at w120
            obtain ⟨v126, q124, h⟩ := bnd_some h
            have w125 := e8_9 r117 r118 r121 r122 v126 q124
            simp only [X8_9] at w125
            try simp -implicitDefEqProofs only [go_sem, Nat.reduceLT, Nat.reduceAdd, Nat.reduceSub, Nat.reduceMul, Nat.reduceEqDiff, Nat.reduceBEq, Nat.reduceLeDiff, Int.reduceToNat, Int.reduceLT, Int.reduceLE, Int.reduceEq, reduceCtorEq, ↓reduceIte] at w125
            cases h
            simp -implicitDefEqProofs only [go_sem, Nat.reduceLT, Nat.reduceAdd, Nat.reduceSub, Nat.reduceMul, Nat.reduceEqDiff, Nat.reduceBEq, Nat.reduceLeDiff, Int.reduceToNat, Int.reduceLT, Int.reduceLE, Int.reduceEq, reduceCtorEq, ↓reduceIte, i8, c8, b1, w3, w8, w12, w17, b19, w76, w78, w84, w88, w93, b95, w107, w109, w116, w120, w125]
          · replace h := selS_r h
            have w107 := e8_7 a1 r79 r81 r82 r85 r86 r80 (.inr ()) q106
            simp only [X8_7] at w107
            try simp -implicitDefEqProofs only [go_sem, Nat.reduceLT, Nat.reduceAdd, Nat.reduceSub, Nat.reduceMul, Nat.reduceEqDiff, Nat.reduceBEq, Nat.reduceLeDiff, Int.reduceToNat, Int.reduceLT, Int.reduceLE, Int.reduceEq, reduceCtorEq, ↓reduceIte] at w107
            cases h
            simp -implicitDefEqProofs only [go_sem, Nat.reduceLT, Nat.reduceAdd, Nat.reduceSub, Nat.reduceMul, Nat.reduceEqDiff, Nat.reduceBEq, Nat.reduceLeDiff, Int.reduceToNat, Int.reduceLT, Int.reduceLE, Int.reduceEq, reduceCtorEq, ↓reduceIte, i8, c8, b1, w3, w8, w12, w17, b19, w76, w78, w84, w88, w93, b95, w107]
        · replace h := br_t b95 h
          cases h
          simp -implicitDefEqProofs only [go_sem, Nat.reduceLT, Nat.reduceAdd, Nat.reduceSub, Nat.reduceMul, Nat.reduceEqDiff, Nat.reduceBEq, Nat.reduceLeDiff, Int.reduceToNat, Int.reduceLT, Int.reduceLE, Int.reduceEq, reduceCtorEq, ↓reduceIte, i8, c8, b1, w3, w8, w12, w17, b19, w76, w78, w84, w88, w93, b95]
      · replace h := selS_r h
        have w76 := e8_2 a1 r4 r9 r10 r5 r6 (.inr ()) q75
        simp only [X8_2] at w76
        try simp -implicitDefEqProofs only [go_sem, Nat.reduceLT, Nat.reduceAdd, Nat.reduceSub, Nat.reduceMul, Nat.reduceEqDiff, Nat.reduceBEq, Nat.reduceLeDiff, Int.reduceToNat, Int.reduceLT, Int.reduceLE, Int.reduceEq, reduceCtorEq, ↓reduceIte] at w76
        cases h
        simp -implicitDefEqProofs only [go_sem, Nat.reduceLT, Nat.reduceAdd, Nat.reduceSub, Nat.reduceMul, Nat.reduceEqDiff, Nat.reduceBEq, Nat.reduceLeDiff, Int.reduceToNat, Int.reduceLT, Int.reduceLE, Int.reduceEq, reduceCtorEq, ↓reduceIte, i8, c8, b1, w3, w8, w12, w17, b19, w76]
    · replace h := br_t b19 h
      cases h
      simp -implicitDefEqProofs only [go_sem, Nat.reduceLT, Nat.reduceAdd, Nat.reduceSub, Nat.reduceMul, Nat.reduceEqDiff, Nat.reduceBEq, Nat.reduceLeDiff, Int.reduceToNat, Int.reduceLT, Int.reduceLE, Int.reduceEq, reduceCtorEq, ↓reduceIte, i8, c8, b1, w3, w8, w12, w17, b19]
  · replace h := br_t b1 h
    cases h
    simp -implicitDefEqProofs only [go_sem, Nat.reduceLT, Nat.reduceAdd, Nat.reduceSub, Nat.reduceMul, Nat.reduceEqDiff, Nat.reduceBEq, Nat.reduceLeDiff, Int.reduceToNat, Int.reduceLT, Int.reduceLE, Int.reduceEq, reduceCtorEq, ↓reduceIte, i8, c8, b1]
end Go.Pi.Ytichbkallidkcaa.Valley
