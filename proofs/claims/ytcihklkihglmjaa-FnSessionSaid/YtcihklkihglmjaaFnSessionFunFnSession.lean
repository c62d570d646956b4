/- What functions of the program answer, and that the law answers true at every input; no condition -/
import Derived.Test.YtcihklkihglmjaaFnSessionTabFnSession
import Derived.Test.YtcihklkihglmjaaFnSessionModFnSession
set_option linter.all false
/- Functions of the program: that the code answers as the plain functions do. -/
namespace Go.Pi.Ytcihklkihglmjaa.FnSession
open Go Go.Proofs Go.Pi
set_option maxRecDepth 100000
set_option linter.all false
def encIntu8 (x : Int) : List AV := [.int .u8 x]
attribute [go_sem] encIntu8
theorem sq_encIntu8 (q : Ql) (x : Int) : setQL q (encIntu8 x) = encIntu8 x := by simp [encIntu8]
theorem sqm_encIntu8 (q : Ql) (xs : List Int) : setQLL q (xs.map encIntu8) = xs.map encIntu8 := by rw [setQLL_map]; exact List.map_congr_left (fun x _ => sq_encIntu8 q x)
theorem ow_encIntu8 (x : Int) : ownOnlyL (encIntu8 x) = true := by simp [encIntu8, ownOnlyL, ownOnly, ownLL_map]
theorem owm_encIntu8 (xs : List Int) : ownOnlyLL (xs.map encIntu8) = true := ownLL_map _ ow_encIntu8 xs
theorem fi_encIntu8 (x : Int) : fine.fineL (encIntu8 x) = true := by simp [encIntu8, fine.fineL, fine, fineLL_map]
theorem fim_encIntu8 (xs : List Int) : fine.fineLL (xs.map encIntu8) = true := fineLL_map _ fi_encIntu8 xs
theorem nu_encIntu8 (x : Int) : nude.nudeL (encIntu8 x) = true := by simp [encIntu8, nude.nudeL, nude, nudeLL_map]
theorem num_encIntu8 (xs : List Int) : nude.nudeLL (xs.map encIntu8) = true := nudeLL_map _ nu_encIntu8 xs
theorem st_encIntu8 (q : Ql) (xs : List Int) : (xs.map encIntu8).map (fun x => x.map (setTop q)) = xs.map encIntu8 := by rw [List.map_map]; rfl
attribute [go_sem] st_encIntu8
attribute [simp] sqm_encIntu8 ow_encIntu8 owm_encIntu8 fi_encIntu8 fim_encIntu8 nu_encIntu8 num_encIntu8
attribute [go_sem] sqm_encIntu8 owm_encIntu8 fim_encIntu8 num_encIntu8
def encLIntu8 (q : Ql) (x : (List Int)) : List AV := [.ts q 1 (x.map encIntu8)]
attribute [go_sem] encLIntu8
theorem sq_encLIntu8 (q q1 : Ql) (x : (List Int)) : setQL q (encLIntu8 q1 x) = encLIntu8 q x := by simp [encLIntu8, sq_encIntu8]
theorem sqm_encLIntu8 (q q1 : Ql) (xs : List (List Int)) : setQLL q (xs.map (encLIntu8 q1)) = xs.map (encLIntu8 q) := by rw [setQLL_map]; exact List.map_congr_left (fun x _ => sq_encLIntu8 q q1 x)
theorem ow_encLIntu8 (x : (List Int)) : ownOnlyL (encLIntu8 .own x) = true := by simp [encLIntu8, ownOnlyL, ownOnly, ownLL_map]
theorem owm_encLIntu8 (xs : List (List Int)) : ownOnlyLL (xs.map (encLIntu8 .own)) = true := ownLL_map _ ow_encLIntu8 xs
theorem fi_encLIntu8 (x : (List Int)) : fine.fineL (encLIntu8 .own x) = true := by simp [encLIntu8, fine.fineL, fine, fineLL_map]
theorem fim_encLIntu8 (xs : List (List Int)) : fine.fineLL (xs.map (encLIntu8 .own)) = true := fineLL_map _ fi_encLIntu8 xs
theorem nu_encLIntu8 (x : (List Int)) : nude.nudeL (encLIntu8 .own x) = true := by simp [encLIntu8, nude.nudeL, nude, nudeLL_map]
theorem num_encLIntu8 (xs : List (List Int)) : nude.nudeLL (xs.map (encLIntu8 .own)) = true := nudeLL_map _ nu_encLIntu8 xs
theorem st_encLIntu8 (q q1 : Ql) (xs : List (List Int)) : (xs.map (encLIntu8 q1)).map (fun x => x.map (setTop q)) = xs.map (encLIntu8 q) := by rw [List.map_map]; rfl
attribute [go_sem] st_encLIntu8
attribute [simp] sqm_encLIntu8 ow_encLIntu8 owm_encLIntu8 fi_encLIntu8 fim_encLIntu8 nu_encLIntu8 num_encLIntu8
attribute [go_sem] sqm_encLIntu8 owm_encLIntu8 fim_encLIntu8 num_encLIntu8
def encBool (x : Bool) : List AV := [.bool x]
attribute [go_sem] encBool
theorem sq_encBool (q : Ql) (x : Bool) : setQL q (encBool x) = encBool x := by simp [encBool]
theorem sqm_encBool (q : Ql) (xs : List Bool) : setQLL q (xs.map encBool) = xs.map encBool := by rw [setQLL_map]; exact List.map_congr_left (fun x _ => sq_encBool q x)
theorem ow_encBool (x : Bool) : ownOnlyL (encBool x) = true := by simp [encBool, ownOnlyL, ownOnly, ownLL_map]
theorem owm_encBool (xs : List Bool) : ownOnlyLL (xs.map encBool) = true := ownLL_map _ ow_encBool xs
theorem fi_encBool (x : Bool) : fine.fineL (encBool x) = true := by simp [encBool, fine.fineL, fine, fineLL_map]
theorem fim_encBool (xs : List Bool) : fine.fineLL (xs.map encBool) = true := fineLL_map _ fi_encBool xs
theorem nu_encBool (x : Bool) : nude.nudeL (encBool x) = true := by simp [encBool, nude.nudeL, nude, nudeLL_map]
theorem num_encBool (xs : List Bool) : nude.nudeLL (xs.map encBool) = true := nudeLL_map _ nu_encBool xs
theorem st_encBool (q : Ql) (xs : List Bool) : (xs.map encBool).map (fun x => x.map (setTop q)) = xs.map encBool := by rw [List.map_map]; rfl
attribute [go_sem] st_encBool
attribute [simp] sqm_encBool ow_encBool owm_encBool fi_encBool fim_encBool nu_encBool num_encBool
attribute [go_sem] sqm_encBool owm_encBool fim_encBool num_encBool
def encInt (x : Int) : List AV := [.int .i64 x]
attribute [go_sem] encInt
theorem sq_encInt (q : Ql) (x : Int) : setQL q (encInt x) = encInt x := by simp [encInt]
theorem sqm_encInt (q : Ql) (xs : List Int) : setQLL q (xs.map encInt) = xs.map encInt := by rw [setQLL_map]; exact List.map_congr_left (fun x _ => sq_encInt q x)
theorem ow_encInt (x : Int) : ownOnlyL (encInt x) = true := by simp [encInt, ownOnlyL, ownOnly, ownLL_map]
theorem owm_encInt (xs : List Int) : ownOnlyLL (xs.map encInt) = true := ownLL_map _ ow_encInt xs
theorem fi_encInt (x : Int) : fine.fineL (encInt x) = true := by simp [encInt, fine.fineL, fine, fineLL_map]
theorem fim_encInt (xs : List Int) : fine.fineLL (xs.map encInt) = true := fineLL_map _ fi_encInt xs
theorem nu_encInt (x : Int) : nude.nudeL (encInt x) = true := by simp [encInt, nude.nudeL, nude, nudeLL_map]
theorem num_encInt (xs : List Int) : nude.nudeLL (xs.map encInt) = true := nudeLL_map _ nu_encInt xs
theorem st_encInt (q : Ql) (xs : List Int) : (xs.map encInt).map (fun x => x.map (setTop q)) = xs.map encInt := by rw [List.map_map]; rfl
attribute [go_sem] st_encInt
attribute [simp] sqm_encInt ow_encInt owm_encInt fi_encInt fim_encInt nu_encInt num_encInt
attribute [go_sem] sqm_encInt owm_encInt fim_encInt num_encInt
def encEvt (x : Evt) : List AV := [.int .i64 x.kind, .int .i64 x.n]
attribute [go_sem] encEvt
theorem sq_encEvt (q : Ql) (x : Evt) : setQL q (encEvt x) = encEvt x := by simp [encEvt]
theorem sqm_encEvt (q : Ql) (xs : List Evt) : setQLL q (xs.map encEvt) = xs.map encEvt := by rw [setQLL_map]; exact List.map_congr_left (fun x _ => sq_encEvt q x)
theorem ow_encEvt (x : Evt) : ownOnlyL (encEvt x) = true := by simp [encEvt, ownOnlyL, ownOnly, ownLL_map]
theorem owm_encEvt (xs : List Evt) : ownOnlyLL (xs.map encEvt) = true := ownLL_map _ ow_encEvt xs
theorem fi_encEvt (x : Evt) : fine.fineL (encEvt x) = true := by simp [encEvt, fine.fineL, fine, fineLL_map]
theorem fim_encEvt (xs : List Evt) : fine.fineLL (xs.map encEvt) = true := fineLL_map _ fi_encEvt xs
theorem nu_encEvt (x : Evt) : nude.nudeL (encEvt x) = true := by simp [encEvt, nude.nudeL, nude, nudeLL_map]
theorem num_encEvt (xs : List Evt) : nude.nudeLL (xs.map encEvt) = true := nudeLL_map _ nu_encEvt xs
theorem st_encEvt (q : Ql) (xs : List Evt) : (xs.map encEvt).map (fun x => x.map (setTop q)) = xs.map encEvt := by rw [List.map_map]; rfl
attribute [go_sem] st_encEvt
attribute [simp] sqm_encEvt ow_encEvt owm_encEvt fi_encEvt fim_encEvt nu_encEvt num_encEvt
attribute [go_sem] sqm_encEvt owm_encEvt fim_encEvt num_encEvt
def encLEvt (q : Ql) (x : (List Evt)) : List AV := [.ts q 2 (x.map encEvt)]
attribute [go_sem] encLEvt
theorem sq_encLEvt (q q1 : Ql) (x : (List Evt)) : setQL q (encLEvt q1 x) = encLEvt q x := by simp [encLEvt, sq_encEvt]
theorem sqm_encLEvt (q q1 : Ql) (xs : List (List Evt)) : setQLL q (xs.map (encLEvt q1)) = xs.map (encLEvt q) := by rw [setQLL_map]; exact List.map_congr_left (fun x _ => sq_encLEvt q q1 x)
theorem ow_encLEvt (x : (List Evt)) : ownOnlyL (encLEvt .own x) = true := by simp [encLEvt, ownOnlyL, ownOnly, ownLL_map]
theorem owm_encLEvt (xs : List (List Evt)) : ownOnlyLL (xs.map (encLEvt .own)) = true := ownLL_map _ ow_encLEvt xs
theorem fi_encLEvt (x : (List Evt)) : fine.fineL (encLEvt .own x) = true := by simp [encLEvt, fine.fineL, fine, fineLL_map]
theorem fim_encLEvt (xs : List (List Evt)) : fine.fineLL (xs.map (encLEvt .own)) = true := fineLL_map _ fi_encLEvt xs
theorem nu_encLEvt (x : (List Evt)) : nude.nudeL (encLEvt .own x) = true := by simp [encLEvt, nude.nudeL, nude, nudeLL_map]
theorem num_encLEvt (xs : List (List Evt)) : nude.nudeLL (xs.map (encLEvt .own)) = true := nudeLL_map _ nu_encLEvt xs
theorem st_encLEvt (q q1 : Ql) (xs : List (List Evt)) : (xs.map (encLEvt q1)).map (fun x => x.map (setTop q)) = xs.map (encLEvt q) := by rw [List.map_map]; rfl
attribute [go_sem] st_encLEvt
attribute [simp] sqm_encLEvt ow_encLEvt owm_encLEvt fi_encLEvt fim_encLEvt nu_encLEvt num_encLEvt
attribute [go_sem] sqm_encLEvt owm_encLEvt fim_encLEvt num_encLEvt
def encIntu64 (x : Int) : List AV := [.int .u64 x]
attribute [go_sem] encIntu64
theorem sq_encIntu64 (q : Ql) (x : Int) : setQL q (encIntu64 x) = encIntu64 x := by simp [encIntu64]
theorem sqm_encIntu64 (q : Ql) (xs : List Int) : setQLL q (xs.map encIntu64) = xs.map encIntu64 := by rw [setQLL_map]; exact List.map_congr_left (fun x _ => sq_encIntu64 q x)
theorem ow_encIntu64 (x : Int) : ownOnlyL (encIntu64 x) = true := by simp [encIntu64, ownOnlyL, ownOnly, ownLL_map]
theorem owm_encIntu64 (xs : List Int) : ownOnlyLL (xs.map encIntu64) = true := ownLL_map _ ow_encIntu64 xs
theorem fi_encIntu64 (x : Int) : fine.fineL (encIntu64 x) = true := by simp [encIntu64, fine.fineL, fine, fineLL_map]
theorem fim_encIntu64 (xs : List Int) : fine.fineLL (xs.map encIntu64) = true := fineLL_map _ fi_encIntu64 xs
theorem nu_encIntu64 (x : Int) : nude.nudeL (encIntu64 x) = true := by simp [encIntu64, nude.nudeL, nude, nudeLL_map]
theorem num_encIntu64 (xs : List Int) : nude.nudeLL (xs.map encIntu64) = true := nudeLL_map _ nu_encIntu64 xs
theorem st_encIntu64 (q : Ql) (xs : List Int) : (xs.map encIntu64).map (fun x => x.map (setTop q)) = xs.map encIntu64 := by rw [List.map_map]; rfl
attribute [go_sem] st_encIntu64
attribute [simp] sqm_encIntu64 ow_encIntu64 owm_encIntu64 fi_encIntu64 fim_encIntu64 nu_encIntu64 num_encIntu64
attribute [go_sem] sqm_encIntu64 owm_encIntu64 fim_encIntu64 num_encIntu64
def encl1Cur (q : Ql) (x : l1Cur) : List AV := [.ts q 1 (x.code.map encIntu8), .int .i64 x.at_, .int .u64 x.seed]
attribute [go_sem] encl1Cur
theorem sq_encl1Cur (q q1 : Ql) (x : l1Cur) : setQL q (encl1Cur q1 x) = encl1Cur q x := by simp [encl1Cur, sq_encIntu8]
theorem sqm_encl1Cur (q q1 : Ql) (xs : List l1Cur) : setQLL q (xs.map (encl1Cur q1)) = xs.map (encl1Cur q) := by rw [setQLL_map]; exact List.map_congr_left (fun x _ => sq_encl1Cur q q1 x)
theorem ow_encl1Cur (x : l1Cur) : ownOnlyL (encl1Cur .own x) = true := by simp [encl1Cur, ownOnlyL, ownOnly, ownLL_map]
theorem owm_encl1Cur (xs : List l1Cur) : ownOnlyLL (xs.map (encl1Cur .own)) = true := ownLL_map _ ow_encl1Cur xs
theorem fi_encl1Cur (x : l1Cur) : fine.fineL (encl1Cur .own x) = true := by simp [encl1Cur, fine.fineL, fine, fineLL_map]
theorem fim_encl1Cur (xs : List l1Cur) : fine.fineLL (xs.map (encl1Cur .own)) = true := fineLL_map _ fi_encl1Cur xs
theorem nu_encl1Cur (x : l1Cur) : nude.nudeL (encl1Cur .own x) = true := by simp [encl1Cur, nude.nudeL, nude, nudeLL_map]
theorem num_encl1Cur (xs : List l1Cur) : nude.nudeLL (xs.map (encl1Cur .own)) = true := nudeLL_map _ nu_encl1Cur xs
theorem st_encl1Cur (q q1 : Ql) (xs : List l1Cur) : (xs.map (encl1Cur q1)).map (fun x => x.map (setTop q)) = xs.map (encl1Cur q) := by rw [List.map_map]; rfl
attribute [go_sem] st_encl1Cur
attribute [simp] sqm_encl1Cur ow_encl1Cur owm_encl1Cur fi_encl1Cur fim_encl1Cur nu_encl1Cur num_encl1Cur
attribute [go_sem] sqm_encl1Cur owm_encl1Cur fim_encl1Cur num_encl1Cur
def encLInt (q : Ql) (x : (List Int)) : List AV := [.ts q 1 (x.map encInt)]
attribute [go_sem] encLInt
theorem sq_encLInt (q q1 : Ql) (x : (List Int)) : setQL q (encLInt q1 x) = encLInt q x := by simp [encLInt, sq_encInt]
theorem sqm_encLInt (q q1 : Ql) (xs : List (List Int)) : setQLL q (xs.map (encLInt q1)) = xs.map (encLInt q) := by rw [setQLL_map]; exact List.map_congr_left (fun x _ => sq_encLInt q q1 x)
theorem ow_encLInt (x : (List Int)) : ownOnlyL (encLInt .own x) = true := by simp [encLInt, ownOnlyL, ownOnly, ownLL_map]
theorem owm_encLInt (xs : List (List Int)) : ownOnlyLL (xs.map (encLInt .own)) = true := ownLL_map _ ow_encLInt xs
theorem fi_encLInt (x : (List Int)) : fine.fineL (encLInt .own x) = true := by simp [encLInt, fine.fineL, fine, fineLL_map]
theorem fim_encLInt (xs : List (List Int)) : fine.fineLL (xs.map (encLInt .own)) = true := fineLL_map _ fi_encLInt xs
theorem nu_encLInt (x : (List Int)) : nude.nudeL (encLInt .own x) = true := by simp [encLInt, nude.nudeL, nude, nudeLL_map]
theorem num_encLInt (xs : List (List Int)) : nude.nudeLL (xs.map (encLInt .own)) = true := nudeLL_map _ nu_encLInt xs
theorem st_encLInt (q q1 : Ql) (xs : List (List Int)) : (xs.map (encLInt q1)).map (fun x => x.map (setTop q)) = xs.map (encLInt q) := by rw [List.map_map]; rfl
attribute [go_sem] st_encLInt
attribute [simp] sqm_encLInt ow_encLInt owm_encLInt fi_encLInt fim_encLInt nu_encLInt num_encLInt
attribute [go_sem] sqm_encLInt owm_encLInt fim_encLInt num_encLInt
def encSession (x : Session) : List AV := [.int .i64 x.state, .int .i64 x.hold, .int .i64 x.left, .int .i64 x.quiet, .int .i64 x.ups]
attribute [go_sem] encSession
theorem sq_encSession (q : Ql) (x : Session) : setQL q (encSession x) = encSession x := by simp [encSession]
theorem sqm_encSession (q : Ql) (xs : List Session) : setQLL q (xs.map encSession) = xs.map encSession := by rw [setQLL_map]; exact List.map_congr_left (fun x _ => sq_encSession q x)
theorem ow_encSession (x : Session) : ownOnlyL (encSession x) = true := by simp [encSession, ownOnlyL, ownOnly, ownLL_map]
theorem owm_encSession (xs : List Session) : ownOnlyLL (xs.map encSession) = true := ownLL_map _ ow_encSession xs
theorem fi_encSession (x : Session) : fine.fineL (encSession x) = true := by simp [encSession, fine.fineL, fine, fineLL_map]
theorem fim_encSession (xs : List Session) : fine.fineLL (xs.map encSession) = true := fineLL_map _ fi_encSession xs
theorem nu_encSession (x : Session) : nude.nudeL (encSession x) = true := by simp [encSession, nude.nudeL, nude, nudeLL_map]
theorem num_encSession (xs : List Session) : nude.nudeLL (xs.map encSession) = true := nudeLL_map _ nu_encSession xs
theorem st_encSession (q : Ql) (xs : List Session) : (xs.map encSession).map (fun x => x.map (setTop q)) = xs.map encSession := by rw [List.map_map]; rfl
attribute [go_sem] st_encSession
attribute [simp] sqm_encSession ow_encSession owm_encSession fi_encSession fim_encSession nu_encSession num_encSession
attribute [go_sem] sqm_encSession owm_encSession fim_encSession num_encSession
-- f65 (*spec.l1Cur).next
def X65_1 (p1 : Bool) (a0 : l1Cur) (o : Int) : Ex × Fr × St :=
  (.normal, frOf 62 (upd (upd anyF 0 (.ptr 0 0 0)) 3 (.int .i64 o)), [some ⟨.box, 3, [[.ts .imm 1 (a0.code.map encIntu8), .int .i64 a0.at_, .int .u64 a0.seed]]⟩])
theorem e65_1 (p1 : Bool) (a0 : l1Cur) (o : Int) (h : m65_1 p1 a0 = some o) : evCL T 1 k65_1 (frOf 62 (upd (upd (upd anyF 0 (.ptr 0 0 0)) 3 (.int .i64 0)) 13 (.bool p1))) [some ⟨.box, 3, [[.ts .imm 1 (a0.code.map encIntu8), .int .i64 a0.at_, .int .u64 a0.seed]]⟩] = some (X65_1 p1 a0 o) := by
  unfold m65_1 at h
  try simp -implicitDefEqProofs only [go_sem, Nat.reduceLT, Nat.reduceAdd, Nat.reduceSub, Nat.reduceMul, Nat.reduceEqDiff, Nat.reduceBEq, Nat.reduceLeDiff, Int.reduceToNat, Int.reduceLT, Int.reduceLE, Int.reduceEq, reduceCtorEq, ↓reduceIte, X65_1, k65_1]
  cases b2 : (p1 : Bool)
  · replace h := br_f b2 h
    cases h
    simp -implicitDefEqProofs only [go_sem, Nat.reduceLT, Nat.reduceAdd, Nat.reduceSub, Nat.reduceMul, Nat.reduceEqDiff, Nat.reduceBEq, Nat.reduceLeDiff, Int.reduceToNat, Int.reduceLT, Int.reduceLE, Int.reduceEq, reduceCtorEq, ↓reduceIte, X65_1, k65_1, b2]
  · replace h := br_t b2 h
    obtain ⟨x3, q4, h⟩ := bnd_some h
    obtain ⟨g5, g6, g7⟩ := idx_row encIntu8 q4
    try simp -implicitDefEqProofs only [go_sem, Nat.reduceLT, Nat.reduceAdd, Nat.reduceSub, Nat.reduceMul, Nat.reduceEqDiff, Nat.reduceBEq, Nat.reduceLeDiff, Int.reduceToNat, Int.reduceLT, Int.reduceLE, Int.reduceEq, reduceCtorEq, ↓reduceIte] at g6
    try simp -implicitDefEqProofs only [go_sem, Nat.reduceLT, Nat.reduceAdd, Nat.reduceSub, Nat.reduceMul, Nat.reduceEqDiff, Nat.reduceBEq, Nat.reduceLeDiff, Int.reduceToNat, Int.reduceLT, Int.reduceLE, Int.reduceEq, reduceCtorEq, ↓reduceIte] at g7
    cases h
    simp -implicitDefEqProofs only [go_sem, Nat.reduceLT, Nat.reduceAdd, Nat.reduceSub, Nat.reduceMul, Nat.reduceEqDiff, Nat.reduceBEq, Nat.reduceLeDiff, Int.reduceToNat, Int.reduceLT, Int.reduceLE, Int.reduceEq, reduceCtorEq, ↓reduceIte, X65_1, k65_1, b2, g5, g6, g7]
theorem call65 (args : List AV) (S : St) : evCall T (evFL T) 65 args S = c3A true (evFL T 65) (rawAll S [[0]] args) := evCall3_a fn65 rfl args S
attribute [go_sem] call65
theorem e65 (a0 : l1Cur) (r : (Int × Int × Int)) (h : m65 a0 = some r) : evFL T 65 [.ptr 0 0 0] [some ⟨.box, 3, [[.ts .imm 1 (a0.code.map encIntu8), .int .i64 a0.at_, .int .u64 a0.seed]]⟩] = some (.int .i64 r.1, [some ⟨.box, 3, [[.ts .imm 1 (a0.code.map encIntu8), .int .i64 r.2.1, .int .u64 r.2.2]]⟩]) := by
  unfold m65 at h
  rw [evFL_at fn65 (Nat.le_of_ble_eq_true rfl) rfl (.inl rfl)]
  obtain ⟨v10, q8, h⟩ := bnd_some h
  have w9 := e65_1 (ltI a0.at_ (↑a0.code.length : Int)) a0 v10 q8
  simp only [X65_1] at w9
  try simp -implicitDefEqProofs only [go_sem, Nat.reduceLT, Nat.reduceAdd, Nat.reduceSub, Nat.reduceMul, Nat.reduceEqDiff, Nat.reduceBEq, Nat.reduceLeDiff, Int.reduceToNat, Int.reduceLT, Int.reduceLE, Int.reduceEq, reduceCtorEq, ↓reduceIte] at w9
  try simp -implicitDefEqProofs only [go_sem, Nat.reduceLT, Nat.reduceAdd, Nat.reduceSub, Nat.reduceMul, Nat.reduceEqDiff, Nat.reduceBEq, Nat.reduceLeDiff, Int.reduceToNat, Int.reduceLT, Int.reduceLE, Int.reduceEq, reduceCtorEq, ↓reduceIte, i65, c65, w9]
  cases b11 : (leI (wadd .i64 a0.at_ 1) (↑a0.code.length : Int) : Bool)
  · replace h := br_f b11 h
    cases h
    simp -implicitDefEqProofs only [go_sem, Nat.reduceLT, Nat.reduceAdd, Nat.reduceSub, Nat.reduceMul, Nat.reduceEqDiff, Nat.reduceBEq, Nat.reduceLeDiff, Int.reduceToNat, Int.reduceLT, Int.reduceLE, Int.reduceEq, reduceCtorEq, ↓reduceIte, i65, c65, w9, b11]
  · replace h := br_t b11 h
    cases h
    simp -implicitDefEqProofs only [go_sem, Nat.reduceLT, Nat.reduceAdd, Nat.reduceSub, Nat.reduceMul, Nat.reduceEqDiff, Nat.reduceBEq, Nat.reduceLeDiff, Int.reduceToNat, Int.reduceLT, Int.reduceLE, Int.reduceEq, reduceCtorEq, ↓reduceIte, i65, c65, w9, b11]
-- f55 (*spec.l1Cur).pick
def X55_1 (a1 : Int) (r4 : Int) (p7 : Bool) (a0 : l1Cur) (r5 : Int) (r6 : Int) (o : (Int × Int × Int)) : Ex × Fr × St :=
  (.normal, frOf 20 (upd (upd anyF 1 (.int .i64 a1)) 5 (.int .i64 o.1)), [some ⟨.box, 3, [[.ts .imm 1 (a0.code.map encIntu8), .int .i64 o.2.1, .int .u64 o.2.2]]⟩])
theorem e55_1 (a1 : Int) (r4 : Int) (p7 : Bool) (a0 : l1Cur) (r5 : Int) (r6 : Int) (o : (Int × Int × Int)) (h : m55_1 r4 p7 a0 r5 r6 = some o) : evCL T 1 k55_1 (frOf 20 (upd (upd (upd (upd anyF 0 (.ptr 0 0 0)) 1 (.int .i64 a1)) 5 (.int .i64 r4)) 11 (.bool p7))) [some ⟨.box, 3, [[.ts .imm 1 (a0.code.map encIntu8), .int .i64 r5, .int .u64 r6]]⟩] = some (X55_1 a1 r4 p7 a0 r5 r6 o) := by
  unfold m55_1 at h
  try simp -implicitDefEqProofs only [go_sem, Nat.reduceLT, Nat.reduceAdd, Nat.reduceSub, Nat.reduceMul, Nat.reduceEqDiff, Nat.reduceBEq, Nat.reduceLeDiff, Int.reduceToNat, Int.reduceLT, Int.reduceLE, Int.reduceEq, reduceCtorEq, ↓reduceIte, X55_1, k55_1]
  cases b8 : (p7 : Bool)
  · replace h := br_f b8 h
    cases h
    simp -implicitDefEqProofs only [go_sem, Nat.reduceLT, Nat.reduceAdd, Nat.reduceSub, Nat.reduceMul, Nat.reduceEqDiff, Nat.reduceBEq, Nat.reduceLeDiff, Int.reduceToNat, Int.reduceLT, Int.reduceLE, Int.reduceEq, reduceCtorEq, ↓reduceIte, X55_1, k55_1, b8]
  · replace h := br_t b8 h
    obtain ⟨⟨r11, r12, r13⟩, q9, h⟩ := bnd_some h
    replace h := sel3_some h
    have w10 := e65 (⟨a0.code, r5, r6⟩ : l1Cur) (r11, r12, r13) q9
    try simp -implicitDefEqProofs only [go_sem, Nat.reduceLT, Nat.reduceAdd, Nat.reduceSub, Nat.reduceMul, Nat.reduceEqDiff, Nat.reduceBEq, Nat.reduceLeDiff, Int.reduceToNat, Int.reduceLT, Int.reduceLE, Int.reduceEq, reduceCtorEq, ↓reduceIte] at w10
    cases h
    simp -implicitDefEqProofs only [go_sem, Nat.reduceLT, Nat.reduceAdd, Nat.reduceSub, Nat.reduceMul, Nat.reduceEqDiff, Nat.reduceBEq, Nat.reduceLeDiff, Int.reduceToNat, Int.reduceLT, Int.reduceLE, Int.reduceEq, reduceCtorEq, ↓reduceIte, X55_1, k55_1, b8, w10]
theorem call55 (args : List AV) (S : St) : evCall T (evFL T) 55 args S = c3A true (evFL T 55) (rawAll S [[0], [0]] args) := evCall3_a fn55 rfl args S
attribute [go_sem] call55
theorem e55 (a0 : l1Cur) (a1 : Int) (r : (Int × Int × Int)) (h : m55 a0 a1 = some r) : evFL T 55 [.ptr 0 0 0, .int .i64 a1] [some ⟨.box, 3, [[.ts .imm 1 (a0.code.map encIntu8), .int .i64 a0.at_, .int .u64 a0.seed]]⟩] = some (.int .i64 r.1, [some ⟨.box, 3, [[.ts .imm 1 (a0.code.map encIntu8), .int .i64 r.2.1, .int .u64 r.2.2]]⟩]) := by
  unfold m55 at h
  rw [evFL_at fn55 (Nat.le_of_ble_eq_true rfl) rfl (.inl rfl)]
  try simp -implicitDefEqProofs only [go_sem, Nat.reduceLT, Nat.reduceAdd, Nat.reduceSub, Nat.reduceMul, Nat.reduceEqDiff, Nat.reduceBEq, Nat.reduceLeDiff, Int.reduceToNat, Int.reduceLT, Int.reduceLE, Int.reduceEq, reduceCtorEq, ↓reduceIte, i55, c55]
  cases b1 : (leI a1 1 : Bool)
  · replace h := br_f b1 h
    obtain ⟨⟨r4, r5, r6⟩, q2, h⟩ := bnd_some h
    replace h := sel3_some h
    have w3 := e65 a0 (r4, r5, r6) q2
    try simp -implicitDefEqProofs only [go_sem, Nat.reduceLT, Nat.reduceAdd, Nat.reduceSub, Nat.reduceMul, Nat.reduceEqDiff, Nat.reduceBEq, Nat.reduceLeDiff, Int.reduceToNat, Int.reduceLT, Int.reduceLE, Int.reduceEq, reduceCtorEq, ↓reduceIte] at w3
    obtain ⟨⟨v16, v17, v18⟩, q14, h⟩ := bnd_some h
    replace h := sel3_some h
    have w15 := e55_1 a1 r4 (ltI 200 a1) a0 r5 r6 (v16, v17, v18) q14
    simp only [X55_1] at w15
    try simp -implicitDefEqProofs only [go_sem, Nat.reduceLT, Nat.reduceAdd, Nat.reduceSub, Nat.reduceMul, Nat.reduceEqDiff, Nat.reduceBEq, Nat.reduceLeDiff, Int.reduceToNat, Int.reduceLT, Int.reduceLE, Int.reduceEq, reduceCtorEq, ↓reduceIte] at w15
    obtain ⟨g19, h⟩ := ck_some h
    try simp -implicitDefEqProofs only [go_sem, Nat.reduceLT, Nat.reduceAdd, Nat.reduceSub, Nat.reduceMul, Nat.reduceEqDiff, Nat.reduceBEq, Nat.reduceLeDiff, Int.reduceToNat, Int.reduceLT, Int.reduceLE, Int.reduceEq, reduceCtorEq, ↓reduceIte] at g19
    cases h
    simp -implicitDefEqProofs only [go_sem, Nat.reduceLT, Nat.reduceAdd, Nat.reduceSub, Nat.reduceMul, Nat.reduceEqDiff, Nat.reduceBEq, Nat.reduceLeDiff, Int.reduceToNat, Int.reduceLT, Int.reduceLE, Int.reduceEq, reduceCtorEq, ↓reduceIte, i55, c55, b1, w3, w15, g19]
  · replace h := br_t b1 h
    cases h
    simp -implicitDefEqProofs only [go_sem, Nat.reduceLT, Nat.reduceAdd, Nat.reduceSub, Nat.reduceMul, Nat.reduceEqDiff, Nat.reduceBEq, Nat.reduceLeDiff, Int.reduceToNat, Int.reduceLT, Int.reduceLE, Int.reduceEq, reduceCtorEq, ↓reduceIte, i55, c55, b1]
-- f57 (*spec.l1Cur).among
theorem call57 (args : List AV) (S : St) : evCall T (evFL T) 57 args S = c3A true (evFL T 57) (rawAll S [[0], [1]] args) := evCall3_a fn57 rfl args S
attribute [go_sem] call57
theorem e57 (a0 : l1Cur) (a1 : (List Int)) (r : (Int × Int × Int)) (h : m57 a0 a1 = some r) : evFL T 57 [.ptr 0 0 0, .sl 1 0 a1.length] [some ⟨.box, 3, [[.ts .imm 1 (a0.code.map encIntu8), .int .i64 a0.at_, .int .u64 a0.seed]]⟩, some ⟨.arr, 1, a1.map encInt⟩] = some (.int .i64 r.1, [some ⟨.box, 3, [[.ts .imm 1 (a0.code.map encIntu8), .int .i64 r.2.1, .int .u64 r.2.2]]⟩, some ⟨.arr, 1, a1.map encInt⟩]) := by
  unfold m57 at h
  rw [evFL_at fn57 (Nat.le_of_ble_eq_true rfl) rfl (.inl rfl)]
  obtain ⟨⟨r3, r4, r5⟩, q1, h⟩ := bnd_some h
  replace h := sel3_some h
  have w2 := e55 a0 (↑a1.length : Int) (r3, r4, r5) q1
  try simp -implicitDefEqProofs only [go_sem, Nat.reduceLT, Nat.reduceAdd, Nat.reduceSub, Nat.reduceMul, Nat.reduceEqDiff, Nat.reduceBEq, Nat.reduceLeDiff, Int.reduceToNat, Int.reduceLT, Int.reduceLE, Int.reduceEq, reduceCtorEq, ↓reduceIte] at w2
  obtain ⟨x6, q7, h⟩ := bnd_some h
  obtain ⟨g8, g9, g10⟩ := idx_row encInt q7
  try simp -implicitDefEqProofs only [go_sem, Nat.reduceLT, Nat.reduceAdd, Nat.reduceSub, Nat.reduceMul, Nat.reduceEqDiff, Nat.reduceBEq, Nat.reduceLeDiff, Int.reduceToNat, Int.reduceLT, Int.reduceLE, Int.reduceEq, reduceCtorEq, ↓reduceIte] at g9
  try simp -implicitDefEqProofs only [go_sem, Nat.reduceLT, Nat.reduceAdd, Nat.reduceSub, Nat.reduceMul, Nat.reduceEqDiff, Nat.reduceBEq, Nat.reduceLeDiff, Int.reduceToNat, Int.reduceLT, Int.reduceLE, Int.reduceEq, reduceCtorEq, ↓reduceIte] at g10
  cases h
  simp -implicitDefEqProofs only [go_sem, Nat.reduceLT, Nat.reduceAdd, Nat.reduceSub, Nat.reduceMul, Nat.reduceEqDiff, Nat.reduceBEq, Nat.reduceLeDiff, Int.reduceToNat, Int.reduceLT, Int.reduceLE, Int.reduceEq, reduceCtorEq, ↓reduceIte, i57, c57, w2, g8, g9, g10]
-- f56 (*spec.l1Cur).one
theorem call56 (args : List AV) (S : St) : evCall T (evFL T) 56 args S = c3A true (evFL T 56) (rawAll S [[0], [0]] args) := evCall3_a fn56 rfl args S
attribute [go_sem] call56
theorem e56 (a0 : l1Cur) (a1 : Int) (r : (Bool × Int × Int)) (h : m56 a0 a1 = some r) : evFL T 56 [.ptr 0 0 0, .int .i64 a1] [some ⟨.box, 3, [[.ts .imm 1 (a0.code.map encIntu8), .int .i64 a0.at_, .int .u64 a0.seed]]⟩] = some (.bool r.1, [some ⟨.box, 3, [[.ts .imm 1 (a0.code.map encIntu8), .int .i64 r.2.1, .int .u64 r.2.2]]⟩]) := by
  unfold m56 at h
  rw [evFL_at fn56 (Nat.le_of_ble_eq_true rfl) rfl (.inl rfl)]
  obtain ⟨⟨r3, r4, r5⟩, q1, h⟩ := bnd_some h
  replace h := sel3_some h
  have w2 := e55 a0 a1 (r3, r4, r5) q1
  try simp -implicitDefEqProofs only [go_sem, Nat.reduceLT, Nat.reduceAdd, Nat.reduceSub, Nat.reduceMul, Nat.reduceEqDiff, Nat.reduceBEq, Nat.reduceLeDiff, Int.reduceToNat, Int.reduceLT, Int.reduceLE, Int.reduceEq, reduceCtorEq, ↓reduceIte] at w2
  cases h
  simp -implicitDefEqProofs only [go_sem, Nat.reduceLT, Nat.reduceAdd, Nat.reduceSub, Nat.reduceMul, Nat.reduceEqDiff, Nat.reduceBEq, Nat.reduceLeDiff, Int.reduceToNat, Int.reduceLT, Int.reduceLE, Int.reduceEq, reduceCtorEq, ↓reduceIte, i56, c56, w2]
-- f58 (*spec.l1Cur).events
def X58_1 (p6 : Bool) (a0 : l1Cur) (r4 : Int) (r5 : Int) (o : (List Evt)) : Ex × Fr × St :=
  (.normal, frOf 57 (upd (upd anyF 0 (.ptr 0 0 0)) 3 (.sl 1 0 o.length)), [some ⟨.box, 3, [[.ts .imm 1 (a0.code.map encIntu8), .int .i64 r4, .int .u64 r5]]⟩, some ⟨.arr, 2, o.map encEvt⟩])
theorem e58_1 (p6 : Bool) (a0 : l1Cur) (r4 : Int) (r5 : Int) (o : (List Evt)) (h : m58_1 p6 = some o) : evCL T 1 k58_1 (frOf 57 (upd (upd (upd anyF 0 (.ptr 0 0 0)) 3 (.sl 1 0 0)) 8 (.bool p6))) [some ⟨.box, 3, [[.ts .imm 1 (a0.code.map encIntu8), .int .i64 r4, .int .u64 r5]]⟩, some ⟨.arr, 2, []⟩] = some (X58_1 p6 a0 r4 r5 o) := by
  unfold m58_1 at h
  try simp -implicitDefEqProofs only [go_sem, Nat.reduceLT, Nat.reduceAdd, Nat.reduceSub, Nat.reduceMul, Nat.reduceEqDiff, Nat.reduceBEq, Nat.reduceLeDiff, Int.reduceToNat, Int.reduceLT, Int.reduceLE, Int.reduceEq, reduceCtorEq, ↓reduceIte, X58_1, k58_1]
  cases b7 : (p6 : Bool)
  · replace h := br_f b7 h
    cases h
    simp -implicitDefEqProofs only [go_sem, Nat.reduceLT, Nat.reduceAdd, Nat.reduceSub, Nat.reduceMul, Nat.reduceEqDiff, Nat.reduceBEq, Nat.reduceLeDiff, Int.reduceToNat, Int.reduceLT, Int.reduceLE, Int.reduceEq, reduceCtorEq, ↓reduceIte, X58_1, k58_1, b7]
  · replace h := br_t b7 h
    cases h
    simp -implicitDefEqProofs only [go_sem, Nat.reduceLT, Nat.reduceAdd, Nat.reduceSub, Nat.reduceMul, Nat.reduceEqDiff, Nat.reduceBEq, Nat.reduceLeDiff, Int.reduceToNat, Int.reduceLT, Int.reduceLE, Int.reduceEq, reduceCtorEq, ↓reduceIte, X58_1, k58_1, b7]
def X58_2 (r13 : Bool) (a0 : l1Cur) (r14 : Int) (r15 : Int) (v10 : List Evt) (o : (Int × Int × List Evt)) : Ex × Fr × St :=
  (.normal, frOf 57 (upd (upd anyF 0 (.ptr 0 0 0)) 3 (.sl 1 0 o.2.2.length)), [some ⟨.box, 3, [[.ts .imm 1 (a0.code.map encIntu8), .int .i64 o.1, .int .u64 o.2.1]]⟩, some ⟨.arr, 2, o.2.2.map encEvt⟩])
theorem e58_2 (r13 : Bool) (a0 : l1Cur) (r14 : Int) (r15 : Int) (v10 : List Evt) (o : (Int × Int × List Evt)) (h : m58_2 r13 a0 r14 r15 v10 = some o) : evCL T 1 k58_2 (frOf 57 (upd (upd (upd anyF 0 (.ptr 0 0 0)) 3 (.sl 1 0 v10.length)) 15 (.bool r13))) [some ⟨.box, 3, [[.ts .imm 1 (a0.code.map encIntu8), .int .i64 r14, .int .u64 r15]]⟩, some ⟨.arr, 2, v10.map encEvt⟩] = some (X58_2 r13 a0 r14 r15 v10 o) := by
  unfold m58_2 at h
  try simp -implicitDefEqProofs only [go_sem, Nat.reduceLT, Nat.reduceAdd, Nat.reduceSub, Nat.reduceMul, Nat.reduceEqDiff, Nat.reduceBEq, Nat.reduceLeDiff, Int.reduceToNat, Int.reduceLT, Int.reduceLE, Int.reduceEq, reduceCtorEq, ↓reduceIte, X58_2, k58_2]
  cases b16 : (r13 : Bool)
  · replace h := br_f b16 h
    cases h
    simp -implicitDefEqProofs only [go_sem, Nat.reduceLT, Nat.reduceAdd, Nat.reduceSub, Nat.reduceMul, Nat.reduceEqDiff, Nat.reduceBEq, Nat.reduceLeDiff, Int.reduceToNat, Int.reduceLT, Int.reduceLE, Int.reduceEq, reduceCtorEq, ↓reduceIte, X58_2, k58_2, b16]
  · replace h := br_t b16 h
    obtain ⟨⟨r19, r20, r21⟩, q17, h⟩ := bnd_some h
    replace h := sel3_some h
    have w18 := e55 (⟨a0.code, r14, r15⟩ : l1Cur) 20 (r19, r20, r21) q17
    try simp -implicitDefEqProofs only [go_sem, Nat.reduceLT, Nat.reduceAdd, Nat.reduceSub, Nat.reduceMul, Nat.reduceEqDiff, Nat.reduceBEq, Nat.reduceLeDiff, Int.reduceToNat, Int.reduceLT, Int.reduceLE, Int.reduceEq, reduceCtorEq, ↓reduceIte] at w18
    obtain ⟨g22, h⟩ := ck_some h
    try simp -implicitDefEqProofs only [go_sem, Nat.reduceLT, Nat.reduceAdd, Nat.reduceSub, Nat.reduceMul, Nat.reduceEqDiff, Nat.reduceBEq, Nat.reduceLeDiff, Int.reduceToNat, Int.reduceLT, Int.reduceLE, Int.reduceEq, reduceCtorEq, ↓reduceIte] at g22
    cases h
    simp -implicitDefEqProofs only [go_sem, Nat.reduceLT, Nat.reduceAdd, Nat.reduceSub, Nat.reduceMul, Nat.reduceEqDiff, Nat.reduceBEq, Nat.reduceLeDiff, Int.reduceToNat, Int.reduceLT, Int.reduceLE, Int.reduceEq, reduceCtorEq, ↓reduceIte, X58_2, k58_2, b16, w18, g22]
def X58_3 (r30 : Int) (r35 : Bool) (a0 : l1Cur) (r36 : Int) (r37 : Int) (v27 : List Evt) (o : (Int × Int × Int)) : Ex × Fr × St :=
  (.normal, frOf 57 (upd (upd (upd anyF 0 (.ptr 0 0 0)) 3 (.sl 1 0 v27.length)) 4 (.int .i64 o.1)), [some ⟨.box, 3, [[.ts .imm 1 (a0.code.map encIntu8), .int .i64 o.2.1, .int .u64 o.2.2]]⟩, some ⟨.arr, 2, v27.map encEvt⟩])
theorem e58_3 (r30 : Int) (r35 : Bool) (a0 : l1Cur) (r36 : Int) (r37 : Int) (v27 : List Evt) (o : (Int × Int × Int)) (h : m58_3 r30 r35 a0 r36 r37 = some o) : evCL T 1 k58_3 (frOf 57 (upd (upd (upd (upd anyF 0 (.ptr 0 0 0)) 3 (.sl 1 0 v27.length)) 4 (.int .i64 r30)) 27 (.bool r35))) [some ⟨.box, 3, [[.ts .imm 1 (a0.code.map encIntu8), .int .i64 r36, .int .u64 r37]]⟩, some ⟨.arr, 2, v27.map encEvt⟩] = some (X58_3 r30 r35 a0 r36 r37 v27 o) := by
  unfold m58_3 at h
  try simp -implicitDefEqProofs only [go_sem, Nat.reduceLT, Nat.reduceAdd, Nat.reduceSub, Nat.reduceMul, Nat.reduceEqDiff, Nat.reduceBEq, Nat.reduceLeDiff, Int.reduceToNat, Int.reduceLT, Int.reduceLE, Int.reduceEq, reduceCtorEq, ↓reduceIte, X58_3, k58_3]
  cases b38 : (r35 : Bool)
  · replace h := br_f b38 h
    cases h
    simp -implicitDefEqProofs only [go_sem, Nat.reduceLT, Nat.reduceAdd, Nat.reduceSub, Nat.reduceMul, Nat.reduceEqDiff, Nat.reduceBEq, Nat.reduceLeDiff, Int.reduceToNat, Int.reduceLT, Int.reduceLE, Int.reduceEq, reduceCtorEq, ↓reduceIte, X58_3, k58_3, b38]
  · replace h := br_t b38 h
    obtain ⟨⟨r41, r42, r43⟩, q39, h⟩ := bnd_some h
    replace h := sel3_some h
    have w40 := e55 (⟨a0.code, r36, r37⟩ : l1Cur) 3 (r41, r42, r43) q39
    try simp -implicitDefEqProofs only [go_sem, Nat.reduceLT, Nat.reduceAdd, Nat.reduceSub, Nat.reduceMul, Nat.reduceEqDiff, Nat.reduceBEq, Nat.reduceLeDiff, Int.reduceToNat, Int.reduceLT, Int.reduceLE, Int.reduceEq, reduceCtorEq, ↓reduceIte] at w40
    cases h
    simp -implicitDefEqProofs only [go_sem, Nat.reduceLT, Nat.reduceAdd, Nat.reduceSub, Nat.reduceMul, Nat.reduceEqDiff, Nat.reduceBEq, Nat.reduceLeDiff, Int.reduceToNat, Int.reduceLT, Int.reduceLE, Int.reduceEq, reduceCtorEq, ↓reduceIte, X58_3, k58_3, b38, w40]
def X58_7 (s85 : Int) (r97 : Bool) (a0 : l1Cur) (r98 : Int) (r99 : Int) (s88 : List Evt) (p100 : Evt) (o : (Int × Int × Evt)) : Ex × Fr × St :=
  (.normal, frOf 57 (upd (upd (upd (upd anyF 0 (.ptr 0 0 0)) 3 (.sl 1 0 s88.length)) 4 (.int .i64 s85)) 5 (.ptr 2 0 0)), [some ⟨.box, 3, [[.ts .imm 1 (a0.code.map encIntu8), .int .i64 o.1, .int .u64 o.2.1]]⟩, some ⟨.arr, 2, s88.map encEvt⟩, some ⟨.box, 2, [[.int .i64 o.2.2.kind, .int .i64 o.2.2.n]]⟩])
theorem e58_7 (s85 : Int) (r97 : Bool) (a0 : l1Cur) (r98 : Int) (r99 : Int) (s88 : List Evt) (p100 : Evt) (o : (Int × Int × Evt)) (h : m58_7 r97 a0 r98 r99 p100 = some o) : evCL T 1 k58_7 (frOf 57 (upd (upd (upd (upd (upd anyF 0 (.ptr 0 0 0)) 3 (.sl 1 0 s88.length)) 4 (.int .i64 s85)) 5 (.ptr 2 0 0)) 40 (.bool r97))) [some ⟨.box, 3, [[.ts .imm 1 (a0.code.map encIntu8), .int .i64 r98, .int .u64 r99]]⟩, some ⟨.arr, 2, s88.map encEvt⟩, some ⟨.box, 2, [[.int .i64 p100.kind, .int .i64 p100.n]]⟩] = some (X58_7 s85 r97 a0 r98 r99 s88 p100 o) := by
  unfold m58_7 at h
  try simp -implicitDefEqProofs only [go_sem, Nat.reduceLT, Nat.reduceAdd, Nat.reduceSub, Nat.reduceMul, Nat.reduceEqDiff, Nat.reduceBEq, Nat.reduceLeDiff, Int.reduceToNat, Int.reduceLT, Int.reduceLE, Int.reduceEq, reduceCtorEq, ↓reduceIte, X58_7, k58_7]
  cases b101 : (r97 : Bool)
  · replace h := br_f b101 h
    cases h
    simp -implicitDefEqProofs only [go_sem, Nat.reduceLT, Nat.reduceAdd, Nat.reduceSub, Nat.reduceMul, Nat.reduceEqDiff, Nat.reduceBEq, Nat.reduceLeDiff, Int.reduceToNat, Int.reduceLT, Int.reduceLE, Int.reduceEq, reduceCtorEq, ↓reduceIte, X58_7, k58_7, b101]
  · replace h := br_t b101 h
    obtain ⟨⟨r104, r105, r106⟩, q102, h⟩ := bnd_some h
    replace h := sel3_some h
    have w103 := e55 (⟨a0.code, r98, r99⟩ : l1Cur) 10 (r104, r105, r106) q102
    try simp -implicitDefEqProofs only [go_sem, Nat.reduceLT, Nat.reduceAdd, Nat.reduceSub, Nat.reduceMul, Nat.reduceEqDiff, Nat.reduceBEq, Nat.reduceLeDiff, Int.reduceToNat, Int.reduceLT, Int.reduceLE, Int.reduceEq, reduceCtorEq, ↓reduceIte] at w103
    cases h
    simp -implicitDefEqProofs only [go_sem, Nat.reduceLT, Nat.reduceAdd, Nat.reduceSub, Nat.reduceMul, Nat.reduceEqDiff, Nat.reduceBEq, Nat.reduceLeDiff, Int.reduceToNat, Int.reduceLT, Int.reduceLE, Int.reduceEq, reduceCtorEq, ↓reduceIte, X58_7, k58_7, b101, w103]
def X58_8 (s85 : Int) (p112 : Bool) (a0 : l1Cur) (v109 : Int) (v110 : Int) (s88 : List Evt) (v111 : Evt) (o : (Int × Int × Evt)) : Ex × Fr × St :=
  (.normal, frOf 57 (upd (upd (upd (upd anyF 0 (.ptr 0 0 0)) 3 (.sl 1 0 s88.length)) 4 (.int .i64 s85)) 5 (.ptr 2 0 0)), [some ⟨.box, 3, [[.ts .imm 1 (a0.code.map encIntu8), .int .i64 o.1, .int .u64 o.2.1]]⟩, some ⟨.arr, 2, s88.map encEvt⟩, some ⟨.box, 2, [[.int .i64 o.2.2.kind, .int .i64 o.2.2.n]]⟩])
theorem e58_8 (s85 : Int) (p112 : Bool) (a0 : l1Cur) (v109 : Int) (v110 : Int) (s88 : List Evt) (v111 : Evt) (o : (Int × Int × Evt)) (h : m58_8 p112 a0 v109 v110 v111 = some o) : evCL T 1 k58_8 (frOf 57 (upd (upd (upd (upd (upd anyF 0 (.ptr 0 0 0)) 3 (.sl 1 0 s88.length)) 4 (.int .i64 s85)) 5 (.ptr 2 0 0)) 47 (.bool p112))) [some ⟨.box, 3, [[.ts .imm 1 (a0.code.map encIntu8), .int .i64 v109, .int .u64 v110]]⟩, some ⟨.arr, 2, s88.map encEvt⟩, some ⟨.box, 2, [[.int .i64 v111.kind, .int .i64 v111.n]]⟩] = some (X58_8 s85 p112 a0 v109 v110 s88 v111 o) := by
  unfold m58_8 at h
  try simp -implicitDefEqProofs only [go_sem, Nat.reduceLT, Nat.reduceAdd, Nat.reduceSub, Nat.reduceMul, Nat.reduceEqDiff, Nat.reduceBEq, Nat.reduceLeDiff, Int.reduceToNat, Int.reduceLT, Int.reduceLE, Int.reduceEq, reduceCtorEq, ↓reduceIte, X58_8, k58_8]
  cases b113 : (p112 : Bool)
  · replace h := br_f b113 h
    cases h
    simp -implicitDefEqProofs only [go_sem, Nat.reduceLT, Nat.reduceAdd, Nat.reduceSub, Nat.reduceMul, Nat.reduceEqDiff, Nat.reduceBEq, Nat.reduceLeDiff, Int.reduceToNat, Int.reduceLT, Int.reduceLE, Int.reduceEq, reduceCtorEq, ↓reduceIte, X58_8, k58_8, b113]
  · replace h := br_t b113 h
    obtain ⟨⟨r116, r117, r118⟩, q114, h⟩ := bnd_some h
    replace h := sel3_some h
    have w115 := e57 (⟨a0.code, v109, v110⟩ : l1Cur) [0, 2, 3, 9, 90, 100, 101] (r116, r117, r118) q114
    try simp -implicitDefEqProofs only [go_sem, Nat.reduceLT, Nat.reduceAdd, Nat.reduceSub, Nat.reduceMul, Nat.reduceEqDiff, Nat.reduceBEq, Nat.reduceLeDiff, Int.reduceToNat, Int.reduceLT, Int.reduceLE, Int.reduceEq, reduceCtorEq, ↓reduceIte] at w115
    cases h
    simp -implicitDefEqProofs only [go_sem, Nat.reduceLT, Nat.reduceAdd, Nat.reduceSub, Nat.reduceMul, Nat.reduceEqDiff, Nat.reduceBEq, Nat.reduceLeDiff, Int.reduceToNat, Int.reduceLT, Int.reduceLE, Int.reduceEq, reduceCtorEq, ↓reduceIte, X58_8, k58_8, b113, w115]
def X58_4 (a0 : l1Cur) (o : (Int × Int × List Evt)) : Ex × Fr × St :=
  (.exit 0, frOf 57 (upd anyF 3 (.sl 1 0 o.2.2.length)), [some ⟨.box, 3, [[.ts .imm 1 (a0.code.map encIntu8), .int .i64 o.1, .int .u64 o.2.1]]⟩, some ⟨.arr, 2, o.2.2.map encEvt⟩])
def E58_4 (a0 : l1Cur) (s : (Int × Int × Int × List Evt)) : Fr × St := (frOf 57 (upd (upd (upd anyF 0 (.ptr 0 0 0)) 3 (.sl 1 0 s.2.2.2.length)) 4 (.int .i64 s.1)), [some ⟨.box, 3, [[.ts .imm 1 (a0.code.map encIntu8), .int .i64 s.2.1, .int .u64 s.2.2.1]]⟩, some ⟨.arr, 2, s.2.2.2.map encEvt⟩])
theorem b58_4 (a0 : l1Cur) (s : (Int × Int × Int × List Evt)) (o : Ctl (Int × Int × Int × List Evt) (Int × Int × List Evt)) (h : m58_4b a0 s = some o) : evCL T 1 k58_4b (E58_4 a0 s).1 (E58_4 a0 s).2 = some (ctlX (E58_4 a0) (X58_4 a0) o) := by
  unfold m58_4b at h
  obtain ⟨s85, s86, s87, s88⟩ := s
  replace h := sel4_some h
  try simp -implicitDefEqProofs only [go_sem, Nat.reduceLT, Nat.reduceAdd, Nat.reduceSub, Nat.reduceMul, Nat.reduceEqDiff, Nat.reduceBEq, Nat.reduceLeDiff, Int.reduceToNat, Int.reduceLT, Int.reduceLE, Int.reduceEq, reduceCtorEq, ↓reduceIte, E58_4, X58_4, k58_4b]
  cases b89 : (ltI 0 s85 : Bool)
  · replace h := br_f b89 h
    cases h
    simp -implicitDefEqProofs only [go_sem, Nat.reduceLT, Nat.reduceAdd, Nat.reduceSub, Nat.reduceMul, Nat.reduceEqDiff, Nat.reduceBEq, Nat.reduceLeDiff, Int.reduceToNat, Int.reduceLT, Int.reduceLE, Int.reduceEq, reduceCtorEq, ↓reduceIte, E58_4, X58_4, k58_4b, b89]
  · replace h := br_t b89 h
    obtain ⟨⟨r92, r93, r94⟩, q90, h⟩ := bnd_some h
    replace h := sel3_some h
    have w91 := e57 (⟨a0.code, s86, s87⟩ : l1Cur) [1, 3, 5, 7, 7, 7, 8, 8, 10, 10, 10, 10] (r92, r93, r94) q90
    try simp -implicitDefEqProofs only [go_sem, Nat.reduceLT, Nat.reduceAdd, Nat.reduceSub, Nat.reduceMul, Nat.reduceEqDiff, Nat.reduceBEq, Nat.reduceLeDiff, Int.reduceToNat, Int.reduceLT, Int.reduceLE, Int.reduceEq, reduceCtorEq, ↓reduceIte] at w91
    obtain ⟨⟨r97, r98, r99⟩, q95, h⟩ := bnd_some h
    replace h := sel3_some h
    have w96 := e56 (⟨a0.code, r93, r94⟩ : l1Cur) 12 (r97, r98, r99) q95
    try simp -implicitDefEqProofs only [go_sem, Nat.reduceLT, Nat.reduceAdd, Nat.reduceSub, Nat.reduceMul, Nat.reduceEqDiff, Nat.reduceBEq, Nat.reduceLeDiff, Int.reduceToNat, Int.reduceLT, Int.reduceLE, Int.reduceEq, reduceCtorEq, ↓reduceIte] at w96
    obtain ⟨⟨v109, v110, v111⟩, q107, h⟩ := bnd_some h
    replace h := sel3_some h
    have w108 := e58_7 s85 r97 a0 r98 r99 s88 (⟨r92, 0⟩ : Evt) (v109, v110, v111) q107
    simp only [X58_7] at w108
    try simp -implicitDefEqProofs only [go_sem, Nat.reduceLT, Nat.reduceAdd, Nat.reduceSub, Nat.reduceMul, Nat.reduceEqDiff, Nat.reduceBEq, Nat.reduceLeDiff, Int.reduceToNat, Int.reduceLT, Int.reduceLE, Int.reduceEq, reduceCtorEq, ↓reduceIte] at w108
    obtain ⟨⟨v121, v122, v123⟩, q119, h⟩ := bnd_some h
    replace h := sel3_some h
    have w120 := e58_8 s85 (eqI v111.kind 5) a0 v109 v110 s88 v111 (v121, v122, v123) q119
    simp only [X58_8] at w120
    try simp -implicitDefEqProofs only [go_sem, Nat.reduceLT, Nat.reduceAdd, Nat.reduceSub, Nat.reduceMul, Nat.reduceEqDiff, Nat.reduceBEq, Nat.reduceLeDiff, Int.reduceToNat, Int.reduceLT, Int.reduceLE, Int.reduceEq, reduceCtorEq, ↓reduceIte] at w120
    obtain ⟨g124, h⟩ := ck_some h
    try simp -implicitDefEqProofs only [go_sem, Nat.reduceLT, Nat.reduceAdd, Nat.reduceSub, Nat.reduceMul, Nat.reduceEqDiff, Nat.reduceBEq, Nat.reduceLeDiff, Int.reduceToNat, Int.reduceLT, Int.reduceLE, Int.reduceEq, reduceCtorEq, ↓reduceIte] at g124
    cases h
    simp -implicitDefEqProofs only [go_sem, Nat.reduceLT, Nat.reduceAdd, Nat.reduceSub, Nat.reduceMul, Nat.reduceEqDiff, Nat.reduceBEq, Nat.reduceLeDiff, Int.reduceToNat, Int.reduceLT, Int.reduceLE, Int.reduceEq, reduceCtorEq, ↓reduceIte, E58_4, X58_4, k58_4b, b89, w91, w96, w108, w120, g124]
theorem e58_4 (a0 : l1Cur) (s : (Int × Int × Int × List Evt)) (o : (Int × Int × List Evt)) (h : loopP (m58_4b a0) s = some o) : evCL T 1 (.loop k58_4b) (E58_4 a0 s).1 (E58_4 a0 s).2 = some (X58_4 a0 o) :=
  loop_walk (E := E58_4 a0) (X := X58_4 a0) (by intro b; (simp only [X58_4]; nofun)) (b58_4 a0) s o h
theorem call58 (args : List AV) (S : St) : evCall T (evFL T) 58 args S = c3A true (evFL T 58) (rawAll S [[0]] args) := evCall3_a fn58 rfl args S
attribute [go_sem] call58
theorem e58 (a0 : l1Cur) (r : (Int × Int × List Evt)) (h : m58 a0 = some r) : evFL T 58 [.ptr 0 0 0] [some ⟨.box, 3, [[.ts .imm 1 (a0.code.map encIntu8), .int .i64 a0.at_, .int .u64 a0.seed]]⟩] = some (.sl 1 0 r.2.2.length, [some ⟨.box, 3, [[.ts .imm 1 (a0.code.map encIntu8), .int .i64 r.1, .int .u64 r.2.1]]⟩, some ⟨.arr, 2, r.2.2.map encEvt⟩]) := by
  unfold m58 at h
  rw [evFL_at fn58 (Nat.le_of_ble_eq_true rfl) rfl (.inl rfl)]
  obtain ⟨⟨r3, r4, r5⟩, q1, h⟩ := bnd_some h
  replace h := sel3_some h
  have w2 := e56 a0 6 (r3, r4, r5) q1
  try simp -implicitDefEqProofs only [go_sem, Nat.reduceLT, Nat.reduceAdd, Nat.reduceSub, Nat.reduceMul, Nat.reduceEqDiff, Nat.reduceBEq, Nat.reduceLeDiff, Int.reduceToNat, Int.reduceLT, Int.reduceLE, Int.reduceEq, reduceCtorEq, ↓reduceIte] at w2
  obtain ⟨v10, q8, h⟩ := bnd_some h
  have w9 := e58_1 (!r3) a0 r4 r5 v10 q8
  simp only [X58_1] at w9
  try simp -implicitDefEqProofs only [go_sem, Nat.reduceLT, Nat.reduceAdd, Nat.reduceSub, Nat.reduceMul, Nat.reduceEqDiff, Nat.reduceBEq, Nat.reduceLeDiff, Int.reduceToNat, Int.reduceLT, Int.reduceLE, Int.reduceEq, reduceCtorEq, ↓reduceIte] at w9
  obtain ⟨⟨r13, r14, r15⟩, q11, h⟩ := bnd_some h
  replace h := sel3_some h
  have w12 := e56 (⟨a0.code, r4, r5⟩ : l1Cur) 2 (r13, r14, r15) q11
  try simp -implicitDefEqProofs only [go_sem, Nat.reduceLT, Nat.reduceAdd, Nat.reduceSub, Nat.reduceMul, Nat.reduceEqDiff, Nat.reduceBEq, Nat.reduceLeDiff, Int.reduceToNat, Int.reduceLT, Int.reduceLE, Int.reduceEq, reduceCtorEq, ↓reduceIte] at w12
  obtain ⟨⟨v25, v26, v27⟩, q23, h⟩ := bnd_some h
  replace h := sel3_some h
  have w24 := e58_2 r13 a0 r14 r15 v10 (v25, v26, v27) q23
  simp only [X58_2] at w24
  try simp -implicitDefEqProofs only [go_sem, Nat.reduceLT, Nat.reduceAdd, Nat.reduceSub, Nat.reduceMul, Nat.reduceEqDiff, Nat.reduceBEq, Nat.reduceLeDiff, Int.reduceToNat, Int.reduceLT, Int.reduceLE, Int.reduceEq, reduceCtorEq, ↓reduceIte] at w24
  obtain ⟨⟨r30, r31, r32⟩, q28, h⟩ := bnd_some h
  replace h := sel3_some h
  have w29 := e55 (⟨a0.code, v25, v26⟩ : l1Cur) 20 (r30, r31, r32) q28
  try simp -implicitDefEqProofs only [go_sem, Nat.reduceLT, Nat.reduceAdd, Nat.reduceSub, Nat.reduceMul, Nat.reduceEqDiff, Nat.reduceBEq, Nat.reduceLeDiff, Int.reduceToNat, Int.reduceLT, Int.reduceLE, Int.reduceEq, reduceCtorEq, ↓reduceIte] at w29
  obtain ⟨⟨r35, r36, r37⟩, q33, h⟩ := bnd_some h
  replace h := sel3_some h
  have w34 := e56 (⟨a0.code, r31, r32⟩ : l1Cur) 20 (r35, r36, r37) q33
  try simp -implicitDefEqProofs only [go_sem, Nat.reduceLT, Nat.reduceAdd, Nat.reduceSub, Nat.reduceMul, Nat.reduceEqDiff, Nat.reduceBEq, Nat.reduceLeDiff, Int.reduceToNat, Int.reduceLT, Int.reduceLE, Int.reduceEq, reduceCtorEq, ↓reduceIte] at w34
  obtain ⟨⟨v46, v47, v48⟩, q44, h⟩ := bnd_some h
  replace h := sel3_some h
  have w45 := e58_3 r30 r35 a0 r36 r37 v27 (v46, v47, v48) q44
  simp only [X58_3] at w45
  try simp -implicitDefEqProofs only [go_sem, Nat.reduceLT, Nat.reduceAdd, Nat.reduceSub, Nat.reduceMul, Nat.reduceEqDiff, Nat.reduceBEq, Nat.reduceLeDiff, Int.reduceToNat, Int.reduceLT, Int.reduceLE, Int.reduceEq, reduceCtorEq, ↓reduceIte] at w45
  obtain ⟨⟨v127, v128, v129⟩, q125, h⟩ := bnd_some h
  replace h := sel3_some h
  have w126 := e58_4 a0 (v46, v47, v48, v27) (v127, v128, v129) q125
  simp only [E58_4, X58_4] at w126
  try simp -implicitDefEqProofs only [go_sem, Nat.reduceLT, Nat.reduceAdd, Nat.reduceSub, Nat.reduceMul, Nat.reduceEqDiff, Nat.reduceBEq, Nat.reduceLeDiff, Int.reduceToNat, Int.reduceLT, Int.reduceLE, Int.reduceEq, reduceCtorEq, ↓reduceIte] at w126
  cases h
  simp -implicitDefEqProofs only [go_sem, Nat.reduceLT, Nat.reduceAdd, Nat.reduceSub, Nat.reduceMul, Nat.reduceEqDiff, Nat.reduceBEq, Nat.reduceLeDiff, Int.reduceToNat, Int.reduceLT, Int.reduceLE, Int.reduceEq, reduceCtorEq, ↓reduceIte, i58, c58, w2, w9, w12, w24, w29, w34, w45, w126]
-- f35 spec.DrawPlayEvents
theorem call35 (args : List AV) (S : St) : evCall T (evFL T) 35 args S = lendC (evFL T 35) S (lendAll S [[1]] args) := evCall0 fn35 rfl rfl args S
theorem callz35 (args : List AV) (S : St) : evCallFz T (evFL T) 35 args S = lendZ (evFL T 35) S [[0], [2]] (lendAll S [[1]] args) := evCallFz0 fn35 rfl rfl args S
attribute [go_sem] call35 callz35
theorem e35 (a0 : (List Int)) (r : (Int × (List Evt))) (h : m35 a0 = some r) : evFL T 35 [.ts .imm 1 (a0.map encIntu8)] [] = some (.tup [.int .i64 r.1, .sl 0 0 r.2.length], [some ⟨.arr, 2, r.2.map encEvt⟩]) := by
  unfold m35 at h
  rw [evFL_at fn35 (Nat.le_of_ble_eq_true rfl) rfl (.inr rfl)]
  obtain ⟨⟨r3, r4, r5⟩, q1, h⟩ := bnd_some h
  replace h := sel3_some h
  have w2 := e57 (⟨a0, 0, 0⟩ : l1Cur) [2, 3, 9, 9, 90] (r3, r4, r5) q1
  try simp -implicitDefEqProofs only [go_sem, Nat.reduceLT, Nat.reduceAdd, Nat.reduceSub, Nat.reduceMul, Nat.reduceEqDiff, Nat.reduceBEq, Nat.reduceLeDiff, Int.reduceToNat, Int.reduceLT, Int.reduceLE, Int.reduceEq, reduceCtorEq, ↓reduceIte] at w2
  obtain ⟨⟨r8, r9, r10⟩, q6, h⟩ := bnd_some h
  replace h := sel3_some h
  have w7 := e58 (⟨a0, r4, r5⟩ : l1Cur) (r8, r9, r10) q6
  try simp -implicitDefEqProofs only [go_sem, Nat.reduceLT, Nat.reduceAdd, Nat.reduceSub, Nat.reduceMul, Nat.reduceEqDiff, Nat.reduceBEq, Nat.reduceLeDiff, Int.reduceToNat, Int.reduceLT, Int.reduceLE, Int.reduceEq, reduceCtorEq, ↓reduceIte] at w7
  cases h
  simp -implicitDefEqProofs only [go_sem, Nat.reduceLT, Nat.reduceAdd, Nat.reduceSub, Nat.reduceMul, Nat.reduceEqDiff, Nat.reduceBEq, Nat.reduceLeDiff, Int.reduceToNat, Int.reduceLT, Int.reduceLE, Int.reduceEq, reduceCtorEq, ↓reduceIte, i35, c35, w2, w7]
-- f40 impl.within
def X40_1 (a0 : Int) (a1 : Int) (a2 : Int) (o : Bool) : Ex × Fr × St :=
  (.normal, frOf 15 (upd anyF 6 (.bool o)), [])
theorem e40_1 (a0 : Int) (a1 : Int) (a2 : Int) (o : Bool) (h : m40_1 a0 a1 a2 = some o) : evCL T 0 k40_1 (frOf 15 (upd (upd (upd anyF 0 (.int .i64 a0)) 1 (.int .i64 a1)) 2 (.int .i64 a2))) [] = some (X40_1 a0 a1 a2 o) := by
  unfold m40_1 at h
  try simp -implicitDefEqProofs only [go_sem, Nat.reduceLT, Nat.reduceAdd, Nat.reduceSub, Nat.reduceMul, Nat.reduceEqDiff, Nat.reduceBEq, Nat.reduceLeDiff, Int.reduceToNat, Int.reduceLT, Int.reduceLE, Int.reduceEq, reduceCtorEq, ↓reduceIte, X40_1, k40_1]
  cases b1 : (leI a1 a0 : Bool)
  · replace h := br_f b1 h
    cases h
    simp -implicitDefEqProofs only [go_sem, Nat.reduceLT, Nat.reduceAdd, Nat.reduceSub, Nat.reduceMul, Nat.reduceEqDiff, Nat.reduceBEq, Nat.reduceLeDiff, Int.reduceToNat, Int.reduceLT, Int.reduceLE, Int.reduceEq, reduceCtorEq, ↓reduceIte, X40_1, k40_1, b1]
  · replace h := br_t b1 h
    cases h
    simp -implicitDefEqProofs only [go_sem, Nat.reduceLT, Nat.reduceAdd, Nat.reduceSub, Nat.reduceMul, Nat.reduceEqDiff, Nat.reduceBEq, Nat.reduceLeDiff, Int.reduceToNat, Int.reduceLT, Int.reduceLE, Int.reduceEq, reduceCtorEq, ↓reduceIte, X40_1, k40_1, b1]
theorem call40 (args : List AV) (S : St) : evCall T (evFL T) 40 args S = lendC (evFL T 40) S (lendAll S [[0], [0], [0]] args) := evCall0 fn40 rfl rfl args S
theorem callz40 (args : List AV) (S : St) : evCallFz T (evFL T) 40 args S = lendZ (evFL T 40) S [[0]] (lendAll S [[0], [0], [0]] args) := evCallFz0 fn40 rfl rfl args S
attribute [go_sem] call40 callz40
theorem e40 (a0 : Int) (a1 : Int) (a2 : Int) (r : Bool) (h : m40 a0 a1 a2 = some r) : evFL T 40 [.int .i64 a0, .int .i64 a1, .int .i64 a2] [] = some (.bool r, []) := by
  unfold m40 at h
  rw [evFL_at fn40 (Nat.le_of_ble_eq_true rfl) rfl (.inr rfl)]
  obtain ⟨v4, q2, h⟩ := bnd_some h
  have w3 := e40_1 a0 a1 a2 v4 q2
  simp only [X40_1] at w3
  try simp -implicitDefEqProofs only [go_sem, Nat.reduceLT, Nat.reduceAdd, Nat.reduceSub, Nat.reduceMul, Nat.reduceEqDiff, Nat.reduceBEq, Nat.reduceLeDiff, Int.reduceToNat, Int.reduceLT, Int.reduceLE, Int.reduceEq, reduceCtorEq, ↓reduceIte] at w3
  cases h
  simp -implicitDefEqProofs only [go_sem, Nat.reduceLT, Nat.reduceAdd, Nat.reduceSub, Nat.reduceMul, Nat.reduceEqDiff, Nat.reduceBEq, Nat.reduceLeDiff, Int.reduceToNat, Int.reduceLT, Int.reduceLE, Int.reduceEq, reduceCtorEq, ↓reduceIte, i40, c40, w3]
-- f12 impl.NewSession
theorem call12 (args : List AV) (S : St) : evCall T (evFL T) 12 args S = lendC (evFL T 12) S (lendAll S [[0]] args) := evCall0 fn12 rfl rfl args S
theorem callz12 (args : List AV) (S : St) : evCallFz T (evFL T) 12 args S = lendZ (evFL T 12) S [[0, 0, 0, 0, 0], [0]] (lendAll S [[0]] args) := evCallFz0 fn12 rfl rfl args S
attribute [go_sem] call12 callz12
theorem e12 (a0 : Int) (r : (Session × Bool)) (h : m12 a0 = some r) : evFL T 12 [.int .i64 a0] [] = some (.tup [.agg [.int .i64 r.1.state, .int .i64 r.1.hold, .int .i64 r.1.left, .int .i64 r.1.quiet, .int .i64 r.1.ups], .bool r.2], []) := by
  unfold m12 at h
  rw [evFL_at fn12 (Nat.le_of_ble_eq_true rfl) rfl (.inr rfl)]
  obtain ⟨r3, q1, h⟩ := bnd_some h
  have w2 := e40 a0 3 90 r3 q1
  try simp -implicitDefEqProofs only [go_sem, Nat.reduceLT, Nat.reduceAdd, Nat.reduceSub, Nat.reduceMul, Nat.reduceEqDiff, Nat.reduceBEq, Nat.reduceLeDiff, Int.reduceToNat, Int.reduceLT, Int.reduceLE, Int.reduceEq, reduceCtorEq, ↓reduceIte] at w2
  try simp -implicitDefEqProofs only [go_sem, Nat.reduceLT, Nat.reduceAdd, Nat.reduceSub, Nat.reduceMul, Nat.reduceEqDiff, Nat.reduceBEq, Nat.reduceLeDiff, Int.reduceToNat, Int.reduceLT, Int.reduceLE, Int.reduceEq, reduceCtorEq, ↓reduceIte, i12, c12, w2]
  cases b4 : (r3 : Bool)
  · replace h := br_f b4 h
    cases h
    simp -implicitDefEqProofs only [go_sem, Nat.reduceLT, Nat.reduceAdd, Nat.reduceSub, Nat.reduceMul, Nat.reduceEqDiff, Nat.reduceBEq, Nat.reduceLeDiff, Int.reduceToNat, Int.reduceLT, Int.reduceLE, Int.reduceEq, reduceCtorEq, ↓reduceIte, i12, c12, w2, b4]
  · replace h := br_t b4 h
    cases h
    simp -implicitDefEqProofs only [go_sem, Nat.reduceLT, Nat.reduceAdd, Nat.reduceSub, Nat.reduceMul, Nat.reduceEqDiff, Nat.reduceBEq, Nat.reduceLeDiff, Int.reduceToNat, Int.reduceLT, Int.reduceLE, Int.reduceEq, reduceCtorEq, ↓reduceIte, i12, c12, w2, b4]
-- f63 slices.IndexFunc[[]impl.Event,impl.Event]
def X63_1 (a1_f : Nat) (a1_c : List AV) (a0 : (List Evt)) (p1 : Int) (a1 : (Evt → Option Bool)) (o : (Unit ⊕ Int)) : Ex × Fr × St :=
  match o with
  | .inl o => (.exit 0, frOf 19 (anyF), [])
  | .inr o => (.ret, frOf 19 (upd anyF 4 (.int .i64 o)), [])
def E63_1 (a1_f : Nat) (a1_c : List AV) (a0 : (List Evt)) (p1 : Int) (a1 : (Evt → Option Bool)) (s : Int) : Fr × St := (frOf 19 (upd (upd (upd (upd anyF 0 (.ts .imm 2 (a0.map encEvt))) 1 (.fn a1_f a1_c)) 7 (.int .i64 p1)) 8 (.int .i64 s)), [])
theorem b63_1 (a0 : (List Evt)) (p1 : Int) (a1 : (Evt → Option Bool)) (a1_f : Nat) (a1_c : List AV) (a1_h : ((∀ S, mapO (lendPtr S) a1_c = some a1_c) ∧ (∀ n0 src R tm t c, tdL n0 src R tm t c a1_c = some a1_c)) ∧ ∀ y0 r, a1 y0 = some r → (∀ S, evCall T (evFL T) a1_f ([.agg [.int .i64 y0.kind, .int .i64 y0.n]] ++ a1_c) S = some (.bool r, S)) ∧ (∀ S, evCallFz T (evFL T) a1_f ([.agg [.int .i64 y0.kind, .int .i64 y0.n]] ++ a1_c) S = some (.bool r, S))) (s : Int) (o : Ctl Int (Unit ⊕ Int)) (h : m63_1b a0 p1 a1 s = some o) : evCL T 0 k63_1b (E63_1 a1_f a1_c a0 p1 a1 s).1 (E63_1 a1_f a1_c a0 p1 a1 s).2 = some (ctlX (E63_1 a1_f a1_c a0 p1 a1) (X63_1 a1_f a1_c a0 p1 a1) o) := by
  unfold m63_1b at h
  revert h
  generalize s = s12
  intro h
  try simp -implicitDefEqProofs only [go_sem, Nat.reduceLT, Nat.reduceAdd, Nat.reduceSub, Nat.reduceMul, Nat.reduceEqDiff, Nat.reduceBEq, Nat.reduceLeDiff, Int.reduceToNat, Int.reduceLT, Int.reduceLE, Int.reduceEq, reduceCtorEq, ↓reduceIte, E63_1, X63_1, k63_1b, a1_h.1]
  cases b13 : (ltI s12 p1 : Bool)
  · replace h := br_f b13 h
    cases h
    simp -implicitDefEqProofs only [go_sem, Nat.reduceLT, Nat.reduceAdd, Nat.reduceSub, Nat.reduceMul, Nat.reduceEqDiff, Nat.reduceBEq, Nat.reduceLeDiff, Int.reduceToNat, Int.reduceLT, Int.reduceLE, Int.reduceEq, reduceCtorEq, ↓reduceIte, E63_1, X63_1, k63_1b, a1_h.1, b13]
  · replace h := br_t b13 h
    obtain ⟨x14, q15, h⟩ := bnd_some h
    obtain ⟨g16, g17, g18⟩ := idx_row encEvt q15
    try simp -implicitDefEqProofs only [go_sem, Nat.reduceLT, Nat.reduceAdd, Nat.reduceSub, Nat.reduceMul, Nat.reduceEqDiff, Nat.reduceBEq, Nat.reduceLeDiff, Int.reduceToNat, Int.reduceLT, Int.reduceLE, Int.reduceEq, reduceCtorEq, ↓reduceIte] at g17
    try simp -implicitDefEqProofs only [go_sem, Nat.reduceLT, Nat.reduceAdd, Nat.reduceSub, Nat.reduceMul, Nat.reduceEqDiff, Nat.reduceBEq, Nat.reduceLeDiff, Int.reduceToNat, Int.reduceLT, Int.reduceLE, Int.reduceEq, reduceCtorEq, ↓reduceIte] at g18
    obtain ⟨r19, q20, h⟩ := bnd_some h
    have w21 := a1_h.2 x14 r19 q20
    try simp -implicitDefEqProofs only [go_sem, Nat.reduceLT, Nat.reduceAdd, Nat.reduceSub, Nat.reduceMul, Nat.reduceEqDiff, Nat.reduceBEq, Nat.reduceLeDiff, Int.reduceToNat, Int.reduceLT, Int.reduceLE, Int.reduceEq, reduceCtorEq, ↓reduceIte] at w21
    try simp -implicitDefEqProofs only [go_sem, Nat.reduceLT, Nat.reduceAdd, Nat.reduceSub, Nat.reduceMul, Nat.reduceEqDiff, Nat.reduceBEq, Nat.reduceLeDiff, Int.reduceToNat, Int.reduceLT, Int.reduceLE, Int.reduceEq, reduceCtorEq, ↓reduceIte, E63_1, X63_1, k63_1b, a1_h.1, b13, g16, g17, g18, w21.1, w21.2]
    cases b22 : (r19 : Bool)
    · replace h := br_f b22 h
      cases h
      simp -implicitDefEqProofs only [go_sem, Nat.reduceLT, Nat.reduceAdd, Nat.reduceSub, Nat.reduceMul, Nat.reduceEqDiff, Nat.reduceBEq, Nat.reduceLeDiff, Int.reduceToNat, Int.reduceLT, Int.reduceLE, Int.reduceEq, reduceCtorEq, ↓reduceIte, E63_1, X63_1, k63_1b, a1_h.1, b13, g16, g17, g18, w21.1, w21.2, b22]
    · replace h := br_t b22 h
      cases h
      simp -implicitDefEqProofs only [go_sem, Nat.reduceLT, Nat.reduceAdd, Nat.reduceSub, Nat.reduceMul, Nat.reduceEqDiff, Nat.reduceBEq, Nat.reduceLeDiff, Int.reduceToNat, Int.reduceLT, Int.reduceLE, Int.reduceEq, reduceCtorEq, ↓reduceIte, E63_1, X63_1, k63_1b, a1_h.1, b13, g16, g17, g18, w21.1, w21.2, b22]
theorem e63_1 (a0 : (List Evt)) (p1 : Int) (a1 : (Evt → Option Bool)) (a1_f : Nat) (a1_c : List AV) (a1_h : ((∀ S, mapO (lendPtr S) a1_c = some a1_c) ∧ (∀ n0 src R tm t c, tdL n0 src R tm t c a1_c = some a1_c)) ∧ ∀ y0 r, a1 y0 = some r → (∀ S, evCall T (evFL T) a1_f ([.agg [.int .i64 y0.kind, .int .i64 y0.n]] ++ a1_c) S = some (.bool r, S)) ∧ (∀ S, evCallFz T (evFL T) a1_f ([.agg [.int .i64 y0.kind, .int .i64 y0.n]] ++ a1_c) S = some (.bool r, S))) (s : Int) (o : (Unit ⊕ Int)) (h : loopP (m63_1b a0 p1 a1) s = some o) : evCL T 0 (.loop k63_1b) (E63_1 a1_f a1_c a0 p1 a1 s).1 (E63_1 a1_f a1_c a0 p1 a1 s).2 = some (X63_1 a1_f a1_c a0 p1 a1 o) :=
  loop_walk (E := E63_1 a1_f a1_c a0 p1 a1) (X := X63_1 a1_f a1_c a0 p1 a1) (by intro b; rcases b with b | b <;> (simp only [X63_1]; nofun)) (b63_1 a0 p1 a1 a1_f a1_c a1_h) s o h
theorem call63 (args : List AV) (S : St) : evCall T (evFL T) 63 args S = lendC (evFL T 63) S (lendAll S [[2], [0]] args) := evCall0 fn63 rfl rfl args S
theorem callz63 (args : List AV) (S : St) : evCallFz T (evFL T) 63 args S = lendZ (evFL T 63) S [[0]] (lendAll S [[2], [0]] args) := evCallFz0 fn63 rfl rfl args S
attribute [go_sem] call63 callz63
theorem e63 (a0 : (List Evt)) (a1 : (Evt → Option Bool)) (a1_f : Nat) (a1_c : List AV) (a1_h : ((∀ S, mapO (lendPtr S) a1_c = some a1_c) ∧ (∀ n0 src R tm t c, tdL n0 src R tm t c a1_c = some a1_c)) ∧ ∀ y0 r, a1 y0 = some r → (∀ S, evCall T (evFL T) a1_f ([.agg [.int .i64 y0.kind, .int .i64 y0.n]] ++ a1_c) S = some (.bool r, S)) ∧ (∀ S, evCallFz T (evFL T) a1_f ([.agg [.int .i64 y0.kind, .int .i64 y0.n]] ++ a1_c) S = some (.bool r, S))) (r : Int) (h : m63 a0 a1 = some r) : evFL T 63 [.ts .imm 2 (a0.map encEvt), .fn a1_f a1_c] [] = some (.int .i64 r, []) := by
  unfold m63 at h
  rw [evFL_at fn63 (Nat.le_of_ble_eq_true rfl) rfl (.inr rfl)]
  try simp -implicitDefEqProofs only [go_sem, Nat.reduceLT, Nat.reduceAdd, Nat.reduceSub, Nat.reduceMul, Nat.reduceEqDiff, Nat.reduceBEq, Nat.reduceLeDiff, Int.reduceToNat, Int.reduceLT, Int.reduceLE, Int.reduceEq, reduceCtorEq, ↓reduceIte, i63, c63, a1_h.1]
  obtain ⟨o, q23, h⟩ := bnd_some h
  rcases o with ⟨⟩ | v25
  · replace h := selS_l h
    have w24 := e63_1 a0 (↑a0.length : Int) a1 a1_f a1_c a1_h 0 (.inl ()) q23
    simp only [E63_1, X63_1] at w24
    try simp -implicitDefEqProofs only [go_sem, Nat.reduceLT, Nat.reduceAdd, Nat.reduceSub, Nat.reduceMul, Nat.reduceEqDiff, Nat.reduceBEq, Nat.reduceLeDiff, Int.reduceToNat, Int.reduceLT, Int.reduceLE, Int.reduceEq, reduceCtorEq, ↓reduceIte] at w24
    cases h
    simp -implicitDefEqProofs only [go_sem, Nat.reduceLT, Nat.reduceAdd, Nat.reduceSub, Nat.reduceMul, Nat.reduceEqDiff, Nat.reduceBEq, Nat.reduceLeDiff, Int.reduceToNat, Int.reduceLT, Int.reduceLE, Int.reduceEq, reduceCtorEq, ↓reduceIte, i63, c63, a1_h.1, w24]
  · replace h := selS_r h
    have w24 := e63_1 a0 (↑a0.length : Int) a1 a1_f a1_c a1_h 0 (.inr v25) q23
    simp only [E63_1, X63_1] at w24
    try simp -implicitDefEqProofs only [go_sem, Nat.reduceLT, Nat.reduceAdd, Nat.reduceSub, Nat.reduceMul, Nat.reduceEqDiff, Nat.reduceBEq, Nat.reduceLeDiff, Int.reduceToNat, Int.reduceLT, Int.reduceLE, Int.reduceEq, reduceCtorEq, ↓reduceIte] at w24
    cases h
    simp -implicitDefEqProofs only [go_sem, Nat.reduceLT, Nat.reduceAdd, Nat.reduceSub, Nat.reduceMul, Nat.reduceEqDiff, Nat.reduceBEq, Nat.reduceLeDiff, Int.reduceToNat, Int.reduceLT, Int.reduceLE, Int.reduceEq, reduceCtorEq, ↓reduceIte, i63, c63, a1_h.1, w24]
-- f45 slices.ContainsFunc[[]impl.Event,impl.Event]
theorem call45 (args : List AV) (S : St) : evCall T (evFL T) 45 args S = lendC (evFL T 45) S (lendAll S [[2], [0]] args) := evCall0 fn45 rfl rfl args S
theorem callz45 (args : List AV) (S : St) : evCallFz T (evFL T) 45 args S = lendZ (evFL T 45) S [[0]] (lendAll S [[2], [0]] args) := evCallFz0 fn45 rfl rfl args S
attribute [go_sem] call45 callz45
theorem e45 (a0 : (List Evt)) (a1 : (Evt → Option Bool)) (a1_f : Nat) (a1_c : List AV) (a1_h : ((∀ S, mapO (lendPtr S) a1_c = some a1_c) ∧ (∀ n0 src R tm t c, tdL n0 src R tm t c a1_c = some a1_c)) ∧ ∀ y0 r, a1 y0 = some r → (∀ S, evCall T (evFL T) a1_f ([.agg [.int .i64 y0.kind, .int .i64 y0.n]] ++ a1_c) S = some (.bool r, S)) ∧ (∀ S, evCallFz T (evFL T) a1_f ([.agg [.int .i64 y0.kind, .int .i64 y0.n]] ++ a1_c) S = some (.bool r, S))) (r : Bool) (h : m45 a0 a1 = some r) : evFL T 45 [.ts .imm 2 (a0.map encEvt), .fn a1_f a1_c] [] = some (.bool r, []) := by
  unfold m45 at h
  rw [evFL_at fn45 (Nat.le_of_ble_eq_true rfl) rfl (.inr rfl)]
  obtain ⟨r3, q1, h⟩ := bnd_some h
  have w2 := e63 a0 a1 a1_f a1_c a1_h r3 q1
  try simp -implicitDefEqProofs only [go_sem, Nat.reduceLT, Nat.reduceAdd, Nat.reduceSub, Nat.reduceMul, Nat.reduceEqDiff, Nat.reduceBEq, Nat.reduceLeDiff, Int.reduceToNat, Int.reduceLT, Int.reduceLE, Int.reduceEq, reduceCtorEq, ↓reduceIte] at w2
  cases h
  simp -implicitDefEqProofs only [go_sem, Nat.reduceLT, Nat.reduceAdd, Nat.reduceSub, Nat.reduceMul, Nat.reduceEqDiff, Nat.reduceBEq, Nat.reduceLeDiff, Int.reduceToNat, Int.reduceLT, Int.reduceLE, Int.reduceEq, reduceCtorEq, ↓reduceIte, i45, c45, a1_h.1, w2]
-- f43 impl.isEvent
def X43_1 (a0 : Evt) (o : Bool) : Ex × Fr × St :=
  (.normal, frOf 21 (upd anyF 2 (.bool o)), [])
theorem e43_1 (a0 : Evt) (o : Bool) (h : m43_1 a0 = some o) : evCL T 0 k43_1 (frOf 21 (upd anyF 1 (.ptr 0 0 0))) [some ⟨.box, 2, [[.int .i64 a0.kind, .int .i64 a0.n]]⟩] = some (X43_1 a0 o) := by
  unfold m43_1 at h
  obtain ⟨r3, q1, h⟩ := bnd_some h
  have w2 := e40 a0.kind 1 10 r3 q1
  try simp -implicitDefEqProofs only [go_sem, Nat.reduceLT, Nat.reduceAdd, Nat.reduceSub, Nat.reduceMul, Nat.reduceEqDiff, Nat.reduceBEq, Nat.reduceLeDiff, Int.reduceToNat, Int.reduceLT, Int.reduceLE, Int.reduceEq, reduceCtorEq, ↓reduceIte] at w2
  try simp -implicitDefEqProofs only [go_sem, Nat.reduceLT, Nat.reduceAdd, Nat.reduceSub, Nat.reduceMul, Nat.reduceEqDiff, Nat.reduceBEq, Nat.reduceLeDiff, Int.reduceToNat, Int.reduceLT, Int.reduceLE, Int.reduceEq, reduceCtorEq, ↓reduceIte, X43_1, k43_1, w2]
  cases b4 : (r3 : Bool)
  · replace h := br_f b4 h
    cases h
    simp -implicitDefEqProofs only [go_sem, Nat.reduceLT, Nat.reduceAdd, Nat.reduceSub, Nat.reduceMul, Nat.reduceEqDiff, Nat.reduceBEq, Nat.reduceLeDiff, Int.reduceToNat, Int.reduceLT, Int.reduceLE, Int.reduceEq, reduceCtorEq, ↓reduceIte, X43_1, k43_1, w2, b4]
  · replace h := br_t b4 h
    try simp -implicitDefEqProofs only [go_sem, Nat.reduceLT, Nat.reduceAdd, Nat.reduceSub, Nat.reduceMul, Nat.reduceEqDiff, Nat.reduceBEq, Nat.reduceLeDiff, Int.reduceToNat, Int.reduceLT, Int.reduceLE, Int.reduceEq, reduceCtorEq, ↓reduceIte, X43_1, k43_1, w2, b4]
    cases b5 : (eqI a0.n 0 : Bool)
    · replace h := br_f b5 h
      try simp -implicitDefEqProofs only [go_sem, Nat.reduceLT, Nat.reduceAdd, Nat.reduceSub, Nat.reduceMul, Nat.reduceEqDiff, Nat.reduceBEq, Nat.reduceLeDiff, Int.reduceToNat, Int.reduceLT, Int.reduceLE, Int.reduceEq, reduceCtorEq, ↓reduceIte, X43_1, k43_1, w2, b4, b5]
      cases b6 : (eqI a0.kind 5 : Bool)
      · replace h := br_f b6 h
        cases h
        simp -implicitDefEqProofs only [go_sem, Nat.reduceLT, Nat.reduceAdd, Nat.reduceSub, Nat.reduceMul, Nat.reduceEqDiff, Nat.reduceBEq, Nat.reduceLeDiff, Int.reduceToNat, Int.reduceLT, Int.reduceLE, Int.reduceEq, reduceCtorEq, ↓reduceIte, X43_1, k43_1, w2, b4, b5, b6]
      · replace h := br_t b6 h
        obtain ⟨r9, q7, h⟩ := bnd_some h
        have w8 := e40 a0.n 0 100 r9 q7
        try simp -implicitDefEqProofs only [go_sem, Nat.reduceLT, Nat.reduceAdd, Nat.reduceSub, Nat.reduceMul, Nat.reduceEqDiff, Nat.reduceBEq, Nat.reduceLeDiff, Int.reduceToNat, Int.reduceLT, Int.reduceLE, Int.reduceEq, reduceCtorEq, ↓reduceIte] at w8
        cases h
        simp -implicitDefEqProofs only [go_sem, Nat.reduceLT, Nat.reduceAdd, Nat.reduceSub, Nat.reduceMul, Nat.reduceEqDiff, Nat.reduceBEq, Nat.reduceLeDiff, Int.reduceToNat, Int.reduceLT, Int.reduceLE, Int.reduceEq, reduceCtorEq, ↓reduceIte, X43_1, k43_1, w2, b4, b5, b6, w8]
    · replace h := br_t b5 h
      cases h
      simp -implicitDefEqProofs only [go_sem, Nat.reduceLT, Nat.reduceAdd, Nat.reduceSub, Nat.reduceMul, Nat.reduceEqDiff, Nat.reduceBEq, Nat.reduceLeDiff, Int.reduceToNat, Int.reduceLT, Int.reduceLE, Int.reduceEq, reduceCtorEq, ↓reduceIte, X43_1, k43_1, w2, b4, b5]
theorem call43 (args : List AV) (S : St) : evCall T (evFL T) 43 args S = lendC (evFL T 43) S (lendAll S [[0, 0]] args) := evCall0 fn43 rfl rfl args S
theorem callz43 (args : List AV) (S : St) : evCallFz T (evFL T) 43 args S = lendZ (evFL T 43) S [[0]] (lendAll S [[0, 0]] args) := evCallFz0 fn43 rfl rfl args S
attribute [go_sem] call43 callz43
theorem e43 (a0 : Evt) (r : Bool) (h : m43 a0 = some r) : evFL T 43 [.agg [.int .i64 a0.kind, .int .i64 a0.n]] [] = some (.bool r, []) := by
  unfold m43 at h
  rw [evFL_at fn43 (Nat.le_of_ble_eq_true rfl) rfl (.inr rfl)]
  obtain ⟨v12, q10, h⟩ := bnd_some h
  have w11 := e43_1 a0 v12 q10
  simp only [X43_1] at w11
  try simp -implicitDefEqProofs only [go_sem, Nat.reduceLT, Nat.reduceAdd, Nat.reduceSub, Nat.reduceMul, Nat.reduceEqDiff, Nat.reduceBEq, Nat.reduceLeDiff, Int.reduceToNat, Int.reduceLT, Int.reduceLE, Int.reduceEq, reduceCtorEq, ↓reduceIte] at w11
  cases h
  simp -implicitDefEqProofs only [go_sem, Nat.reduceLT, Nat.reduceAdd, Nat.reduceSub, Nat.reduceMul, Nat.reduceEqDiff, Nat.reduceBEq, Nat.reduceLeDiff, Int.reduceToNat, Int.reduceLT, Int.reduceLE, Int.reduceEq, reduceCtorEq, ↓reduceIte, i43, c43, w11]
-- f46 impl.PlayEvents$1
theorem call46 (args : List AV) (S : St) : evCall T (evFL T) 46 args S = lendC (evFL T 46) S (lendAll S [[0, 0]] args) := evCall0 fn46 rfl rfl args S
theorem callz46 (args : List AV) (S : St) : evCallFz T (evFL T) 46 args S = lendZ (evFL T 46) S [[0]] (lendAll S [[0, 0]] args) := evCallFz0 fn46 rfl rfl args S
attribute [go_sem] call46 callz46
theorem e46 (a0 : Evt) (r : Bool) (h : m46 a0 = some r) : evFL T 46 [.agg [.int .i64 a0.kind, .int .i64 a0.n]] [] = some (.bool r, []) := by
  unfold m46 at h
  rw [evFL_at fn46 (Nat.le_of_ble_eq_true rfl) rfl (.inr rfl)]
  obtain ⟨r3, q1, h⟩ := bnd_some h
  have w2 := e43 a0 r3 q1
  try simp -implicitDefEqProofs only [go_sem, Nat.reduceLT, Nat.reduceAdd, Nat.reduceSub, Nat.reduceMul, Nat.reduceEqDiff, Nat.reduceBEq, Nat.reduceLeDiff, Int.reduceToNat, Int.reduceLT, Int.reduceLE, Int.reduceEq, reduceCtorEq, ↓reduceIte] at w2
  cases h
  simp -implicitDefEqProofs only [go_sem, Nat.reduceLT, Nat.reduceAdd, Nat.reduceSub, Nat.reduceMul, Nat.reduceEqDiff, Nat.reduceBEq, Nat.reduceLeDiff, Int.reduceToNat, Int.reduceLT, Int.reduceLE, Int.reduceEq, reduceCtorEq, ↓reduceIte, i46, c46, w2]
-- f61 (impl.Session).to
theorem call61 (args : List AV) (S : St) : evCall T (evFL T) 61 args S = lendC (evFL T 61) S (lendAll S [[0, 0, 0, 0, 0], [0]] args) := evCall0 fn61 rfl rfl args S
theorem callz61 (args : List AV) (S : St) : evCallFz T (evFL T) 61 args S = lendZ (evFL T 61) S [[0, 0, 0, 0, 0]] (lendAll S [[0, 0, 0, 0, 0], [0]] args) := evCallFz0 fn61 rfl rfl args S
attribute [go_sem] call61 callz61
theorem e61 (a0 : Session) (a1 : Int) (r : Session) (h : m61 a0 a1 = some r) : evFL T 61 [.agg [.int .i64 a0.state, .int .i64 a0.hold, .int .i64 a0.left, .int .i64 a0.quiet, .int .i64 a0.ups], .int .i64 a1] [] = some (.agg [.int .i64 r.state, .int .i64 r.hold, .int .i64 r.left, .int .i64 r.quiet, .int .i64 r.ups], []) := by
  unfold m61 at h
  rw [evFL_at fn61 (Nat.le_of_ble_eq_true rfl) rfl (.inr rfl)]
  cases h
  simp -implicitDefEqProofs only [go_sem, Nat.reduceLT, Nat.reduceAdd, Nat.reduceSub, Nat.reduceMul, Nat.reduceEqDiff, Nat.reduceBEq, Nat.reduceLeDiff, Int.reduceToNat, Int.reduceLT, Int.reduceLE, Int.reduceEq, reduceCtorEq, ↓reduceIte, i61, c61]
-- f62 (impl.Session).tick
theorem call62 (args : List AV) (S : St) : evCall T (evFL T) 62 args S = lendC (evFL T 62) S (lendAll S [[0, 0, 0, 0, 0]] args) := evCall0 fn62 rfl rfl args S
theorem callz62 (args : List AV) (S : St) : evCallFz T (evFL T) 62 args S = lendZ (evFL T 62) S [[0, 0, 0, 0, 0], [1]] (lendAll S [[0, 0, 0, 0, 0]] args) := evCallFz0 fn62 rfl rfl args S
attribute [go_sem] call62 callz62
theorem e62 (a0 : Session) (r : (Session × (List Int))) (h : m62 a0 = some r) : evFL T 62 [.agg [.int .i64 a0.state, .int .i64 a0.hold, .int .i64 a0.left, .int .i64 a0.quiet, .int .i64 a0.ups]] [] = some (.tup [.agg [.int .i64 r.1.state, .int .i64 r.1.hold, .int .i64 r.1.left, .int .i64 r.1.quiet, .int .i64 r.1.ups], .sl 0 0 r.2.length], [some ⟨.arr, 1, r.2.map encInt⟩]) := by
  unfold m62 at h
  rw [evFL_at fn62 (Nat.le_of_ble_eq_true rfl) rfl (.inr rfl)]
  try simp -implicitDefEqProofs only [go_sem, Nat.reduceLT, Nat.reduceAdd, Nat.reduceSub, Nat.reduceMul, Nat.reduceEqDiff, Nat.reduceBEq, Nat.reduceLeDiff, Int.reduceToNat, Int.reduceLT, Int.reduceLE, Int.reduceEq, reduceCtorEq, ↓reduceIte, i62, c62]
  cases b1 : (eqI (wsub .i64 a0.left 1) 0 : Bool)
  · replace h := br_f b1 h
    try simp -implicitDefEqProofs only [go_sem, Nat.reduceLT, Nat.reduceAdd, Nat.reduceSub, Nat.reduceMul, Nat.reduceEqDiff, Nat.reduceBEq, Nat.reduceLeDiff, Int.reduceToNat, Int.reduceLT, Int.reduceLE, Int.reduceEq, reduceCtorEq, ↓reduceIte, i62, c62, b1]
    cases b5 : (eqI a0.state 2 : Bool)
    · replace h := br_f b5 h
      try simp -implicitDefEqProofs only [go_sem, Nat.reduceLT, Nat.reduceAdd, Nat.reduceSub, Nat.reduceMul, Nat.reduceEqDiff, Nat.reduceBEq, Nat.reduceLeDiff, Int.reduceToNat, Int.reduceLT, Int.reduceLE, Int.reduceEq, reduceCtorEq, ↓reduceIte, i62, c62, b1, b5]
      cases b6 : (eqI (wsub .i64 a0.quiet 1) 0 : Bool)
      · replace h := br_f b6 h
        cases h
        simp -implicitDefEqProofs only [go_sem, Nat.reduceLT, Nat.reduceAdd, Nat.reduceSub, Nat.reduceMul, Nat.reduceEqDiff, Nat.reduceBEq, Nat.reduceLeDiff, Int.reduceToNat, Int.reduceLT, Int.reduceLE, Int.reduceEq, reduceCtorEq, ↓reduceIte, i62, c62, b1, b5, b6]
      · replace h := br_t b6 h
        cases h
        simp -implicitDefEqProofs only [go_sem, Nat.reduceLT, Nat.reduceAdd, Nat.reduceSub, Nat.reduceMul, Nat.reduceEqDiff, Nat.reduceBEq, Nat.reduceLeDiff, Int.reduceToNat, Int.reduceLT, Int.reduceLE, Int.reduceEq, reduceCtorEq, ↓reduceIte, i62, c62, b1, b5, b6]
    · replace h := br_t b5 h
      cases h
      simp -implicitDefEqProofs only [go_sem, Nat.reduceLT, Nat.reduceAdd, Nat.reduceSub, Nat.reduceMul, Nat.reduceEqDiff, Nat.reduceBEq, Nat.reduceLeDiff, Int.reduceToNat, Int.reduceLT, Int.reduceLE, Int.reduceEq, reduceCtorEq, ↓reduceIte, i62, c62, b1, b5]
  · replace h := br_t b1 h
    obtain ⟨r4, q2, h⟩ := bnd_some h
    have w3 := e61 (⟨a0.state, a0.hold, wsub .i64 a0.left 1, a0.quiet, a0.ups⟩ : Session) 0 r4 q2
    try simp -implicitDefEqProofs only [go_sem, Nat.reduceLT, Nat.reduceAdd, Nat.reduceSub, Nat.reduceMul, Nat.reduceEqDiff, Nat.reduceBEq, Nat.reduceLeDiff, Int.reduceToNat, Int.reduceLT, Int.reduceLE, Int.reduceEq, reduceCtorEq, ↓reduceIte] at w3
    cases h
    simp -implicitDefEqProofs only [go_sem, Nat.reduceLT, Nat.reduceAdd, Nat.reduceSub, Nat.reduceMul, Nat.reduceEqDiff, Nat.reduceBEq, Nat.reduceLeDiff, Int.reduceToNat, Int.reduceLT, Int.reduceLE, Int.reduceEq, reduceCtorEq, ↓reduceIte, i62, c62, b1, w3]
-- f44 (impl.Session).step
def X44_1 (p1 : Bool) (a0 : Session) (a1 : Evt) (p2 : Session) (o : Bool) : Ex × Fr × St :=
  (.normal, frOf 142 (upd (upd (upd (upd (upd anyF 2 (.ptr 0 0 0)) 3 (.ptr 1 0 0)) 4 (.ptr 2 0 0)) 6 (.bool p1)) 12 (.bool o)), [some ⟨.box, 5, [[.int .i64 a0.state, .int .i64 a0.hold, .int .i64 a0.left, .int .i64 a0.quiet, .int .i64 a0.ups]]⟩, some ⟨.box, 2, [[.int .i64 a1.kind, .int .i64 a1.n]]⟩, some ⟨.box, 5, [[.int .i64 p2.state, .int .i64 p2.hold, .int .i64 p2.left, .int .i64 p2.quiet, .int .i64 p2.ups]]⟩])
theorem e44_1 (p1 : Bool) (a0 : Session) (a1 : Evt) (p2 : Session) (o : Bool) (h : m44_1 a0 a1 = some o) : evCL T 0 k44_1 (frOf 142 (upd (upd (upd (upd anyF 2 (.ptr 0 0 0)) 3 (.ptr 1 0 0)) 4 (.ptr 2 0 0)) 6 (.bool p1))) [some ⟨.box, 5, [[.int .i64 a0.state, .int .i64 a0.hold, .int .i64 a0.left, .int .i64 a0.quiet, .int .i64 a0.ups]]⟩, some ⟨.box, 2, [[.int .i64 a1.kind, .int .i64 a1.n]]⟩, some ⟨.box, 5, [[.int .i64 p2.state, .int .i64 p2.hold, .int .i64 p2.left, .int .i64 p2.quiet, .int .i64 p2.ups]]⟩] = some (X44_1 p1 a0 a1 p2 o) := by
  unfold m44_1 at h
  try simp -implicitDefEqProofs only [go_sem, Nat.reduceLT, Nat.reduceAdd, Nat.reduceSub, Nat.reduceMul, Nat.reduceEqDiff, Nat.reduceBEq, Nat.reduceLeDiff, Int.reduceToNat, Int.reduceLT, Int.reduceLE, Int.reduceEq, reduceCtorEq, ↓reduceIte, X44_1, k44_1]
  cases b3 : (eqI a1.kind 1 : Bool)
  · replace h := br_f b3 h
    cases h
    simp -implicitDefEqProofs only [go_sem, Nat.reduceLT, Nat.reduceAdd, Nat.reduceSub, Nat.reduceMul, Nat.reduceEqDiff, Nat.reduceBEq, Nat.reduceLeDiff, Int.reduceToNat, Int.reduceLT, Int.reduceLE, Int.reduceEq, reduceCtorEq, ↓reduceIte, X44_1, k44_1, b3]
  · replace h := br_t b3 h
    cases h
    simp -implicitDefEqProofs only [go_sem, Nat.reduceLT, Nat.reduceAdd, Nat.reduceSub, Nat.reduceMul, Nat.reduceEqDiff, Nat.reduceBEq, Nat.reduceLeDiff, Int.reduceToNat, Int.reduceLT, Int.reduceLE, Int.reduceEq, reduceCtorEq, ↓reduceIte, X44_1, k44_1, b3]
def X44_2 (p11 : Bool) (a0 : Session) (a1 : Evt) (p12 : Session) (o : Bool) : Ex × Fr × St :=
  (.normal, frOf 142 (upd (upd (upd (upd (upd anyF 2 (.ptr 0 0 0)) 3 (.ptr 1 0 0)) 4 (.ptr 2 0 0)) 6 (.bool p11)) 23 (.bool o)), [some ⟨.box, 5, [[.int .i64 a0.state, .int .i64 a0.hold, .int .i64 a0.left, .int .i64 a0.quiet, .int .i64 a0.ups]]⟩, some ⟨.box, 2, [[.int .i64 a1.kind, .int .i64 a1.n]]⟩, some ⟨.box, 5, [[.int .i64 p12.state, .int .i64 p12.hold, .int .i64 p12.left, .int .i64 p12.quiet, .int .i64 p12.ups]]⟩])
theorem e44_2 (p11 : Bool) (a0 : Session) (a1 : Evt) (p12 : Session) (o : Bool) (h : m44_2 p11 a1 = some o) : evCL T 0 k44_2 (frOf 142 (upd (upd (upd (upd anyF 2 (.ptr 0 0 0)) 3 (.ptr 1 0 0)) 4 (.ptr 2 0 0)) 6 (.bool p11))) [some ⟨.box, 5, [[.int .i64 a0.state, .int .i64 a0.hold, .int .i64 a0.left, .int .i64 a0.quiet, .int .i64 a0.ups]]⟩, some ⟨.box, 2, [[.int .i64 a1.kind, .int .i64 a1.n]]⟩, some ⟨.box, 5, [[.int .i64 p12.state, .int .i64 p12.hold, .int .i64 p12.left, .int .i64 p12.quiet, .int .i64 p12.ups]]⟩] = some (X44_2 p11 a0 a1 p12 o) := by
  unfold m44_2 at h
  try simp -implicitDefEqProofs only [go_sem, Nat.reduceLT, Nat.reduceAdd, Nat.reduceSub, Nat.reduceMul, Nat.reduceEqDiff, Nat.reduceBEq, Nat.reduceLeDiff, Int.reduceToNat, Int.reduceLT, Int.reduceLE, Int.reduceEq, reduceCtorEq, ↓reduceIte, X44_2, k44_2]
  cases b13 : (eqI a1.kind 2 : Bool)
  · replace h := br_f b13 h
    cases h
    simp -implicitDefEqProofs only [go_sem, Nat.reduceLT, Nat.reduceAdd, Nat.reduceSub, Nat.reduceMul, Nat.reduceEqDiff, Nat.reduceBEq, Nat.reduceLeDiff, Int.reduceToNat, Int.reduceLT, Int.reduceLE, Int.reduceEq, reduceCtorEq, ↓reduceIte, X44_2, k44_2, b13]
  · replace h := br_t b13 h
    cases h
    simp -implicitDefEqProofs only [go_sem, Nat.reduceLT, Nat.reduceAdd, Nat.reduceSub, Nat.reduceMul, Nat.reduceEqDiff, Nat.reduceBEq, Nat.reduceLeDiff, Int.reduceToNat, Int.reduceLT, Int.reduceLE, Int.reduceEq, reduceCtorEq, ↓reduceIte, X44_2, k44_2, b13]
def X44_3 (p21 : Bool) (a0 : Session) (a1 : Evt) (p22 : Session) (o : Bool) : Ex × Fr × St :=
  (.normal, frOf 142 (upd (upd (upd (upd (upd anyF 2 (.ptr 0 0 0)) 3 (.ptr 1 0 0)) 4 (.ptr 2 0 0)) 6 (.bool p21)) 33 (.bool o)), [some ⟨.box, 5, [[.int .i64 a0.state, .int .i64 a0.hold, .int .i64 a0.left, .int .i64 a0.quiet, .int .i64 a0.ups]]⟩, some ⟨.box, 2, [[.int .i64 a1.kind, .int .i64 a1.n]]⟩, some ⟨.box, 5, [[.int .i64 p22.state, .int .i64 p22.hold, .int .i64 p22.left, .int .i64 p22.quiet, .int .i64 p22.ups]]⟩])
theorem e44_3 (p21 : Bool) (a0 : Session) (a1 : Evt) (p22 : Session) (o : Bool) (h : m44_3 a0 a1 = some o) : evCL T 0 k44_3 (frOf 142 (upd (upd (upd (upd anyF 2 (.ptr 0 0 0)) 3 (.ptr 1 0 0)) 4 (.ptr 2 0 0)) 6 (.bool p21))) [some ⟨.box, 5, [[.int .i64 a0.state, .int .i64 a0.hold, .int .i64 a0.left, .int .i64 a0.quiet, .int .i64 a0.ups]]⟩, some ⟨.box, 2, [[.int .i64 a1.kind, .int .i64 a1.n]]⟩, some ⟨.box, 5, [[.int .i64 p22.state, .int .i64 p22.hold, .int .i64 p22.left, .int .i64 p22.quiet, .int .i64 p22.ups]]⟩] = some (X44_3 p21 a0 a1 p22 o) := by
  unfold m44_3 at h
  try simp -implicitDefEqProofs only [go_sem, Nat.reduceLT, Nat.reduceAdd, Nat.reduceSub, Nat.reduceMul, Nat.reduceEqDiff, Nat.reduceBEq, Nat.reduceLeDiff, Int.reduceToNat, Int.reduceLT, Int.reduceLE, Int.reduceEq, reduceCtorEq, ↓reduceIte, X44_3, k44_3]
  cases b23 : (eqI a1.kind 3 : Bool)
  · replace h := br_f b23 h
    cases h
    simp -implicitDefEqProofs only [go_sem, Nat.reduceLT, Nat.reduceAdd, Nat.reduceSub, Nat.reduceMul, Nat.reduceEqDiff, Nat.reduceBEq, Nat.reduceLeDiff, Int.reduceToNat, Int.reduceLT, Int.reduceLE, Int.reduceEq, reduceCtorEq, ↓reduceIte, X44_3, k44_3, b23]
  · replace h := br_t b23 h
    cases h
    simp -implicitDefEqProofs only [go_sem, Nat.reduceLT, Nat.reduceAdd, Nat.reduceSub, Nat.reduceMul, Nat.reduceEqDiff, Nat.reduceBEq, Nat.reduceLeDiff, Int.reduceToNat, Int.reduceLT, Int.reduceLE, Int.reduceEq, reduceCtorEq, ↓reduceIte, X44_3, k44_3, b23]
def X44_4 (a0 : Session) (a1 : Evt) (p36 : Session) (o : Bool) : Ex × Fr × St :=
  (.normal, frOf 142 (upd (upd (upd (upd anyF 2 (.ptr 0 0 0)) 3 (.ptr 1 0 0)) 4 (.ptr 2 0 0)) 57 (.bool o)), [some ⟨.box, 5, [[.int .i64 a0.state, .int .i64 a0.hold, .int .i64 a0.left, .int .i64 a0.quiet, .int .i64 a0.ups]]⟩, some ⟨.box, 2, [[.int .i64 a1.kind, .int .i64 a1.n]]⟩, some ⟨.box, 5, [[.int .i64 p36.state, .int .i64 p36.hold, .int .i64 p36.left, .int .i64 p36.quiet, .int .i64 p36.ups]]⟩])
theorem e44_4 (a0 : Session) (a1 : Evt) (p36 : Session) (o : Bool) (h : m44_4 a0 a1 = some o) : evCL T 0 k44_4 (frOf 142 (upd (upd (upd anyF 2 (.ptr 0 0 0)) 3 (.ptr 1 0 0)) 4 (.ptr 2 0 0))) [some ⟨.box, 5, [[.int .i64 a0.state, .int .i64 a0.hold, .int .i64 a0.left, .int .i64 a0.quiet, .int .i64 a0.ups]]⟩, some ⟨.box, 2, [[.int .i64 a1.kind, .int .i64 a1.n]]⟩, some ⟨.box, 5, [[.int .i64 p36.state, .int .i64 p36.hold, .int .i64 p36.left, .int .i64 p36.quiet, .int .i64 p36.ups]]⟩] = some (X44_4 a0 a1 p36 o) := by
  unfold m44_4 at h
  try simp -implicitDefEqProofs only [go_sem, Nat.reduceLT, Nat.reduceAdd, Nat.reduceSub, Nat.reduceMul, Nat.reduceEqDiff, Nat.reduceBEq, Nat.reduceLeDiff, Int.reduceToNat, Int.reduceLT, Int.reduceLE, Int.reduceEq, reduceCtorEq, ↓reduceIte, X44_4, k44_4]
  cases b37 : (eqI a1.kind 5 : Bool)
  · replace h := br_f b37 h
    cases h
    simp -implicitDefEqProofs only [go_sem, Nat.reduceLT, Nat.reduceAdd, Nat.reduceSub, Nat.reduceMul, Nat.reduceEqDiff, Nat.reduceBEq, Nat.reduceLeDiff, Int.reduceToNat, Int.reduceLT, Int.reduceLE, Int.reduceEq, reduceCtorEq, ↓reduceIte, X44_4, k44_4, b37]
  · replace h := br_t b37 h
    try simp -implicitDefEqProofs only [go_sem, Nat.reduceLT, Nat.reduceAdd, Nat.reduceSub, Nat.reduceMul, Nat.reduceEqDiff, Nat.reduceBEq, Nat.reduceLeDiff, Int.reduceToNat, Int.reduceLT, Int.reduceLE, Int.reduceEq, reduceCtorEq, ↓reduceIte, X44_4, k44_4, b37]
    cases b38 : (eqI a0.state 2 : Bool)
    · replace h := br_f b38 h
      cases h
      simp -implicitDefEqProofs only [go_sem, Nat.reduceLT, Nat.reduceAdd, Nat.reduceSub, Nat.reduceMul, Nat.reduceEqDiff, Nat.reduceBEq, Nat.reduceLeDiff, Int.reduceToNat, Int.reduceLT, Int.reduceLE, Int.reduceEq, reduceCtorEq, ↓reduceIte, X44_4, k44_4, b37, b38]
    · replace h := br_t b38 h
      cases h
      simp -implicitDefEqProofs only [go_sem, Nat.reduceLT, Nat.reduceAdd, Nat.reduceSub, Nat.reduceMul, Nat.reduceEqDiff, Nat.reduceBEq, Nat.reduceLeDiff, Int.reduceToNat, Int.reduceLT, Int.reduceLE, Int.reduceEq, reduceCtorEq, ↓reduceIte, X44_4, k44_4, b37, b38]
def X44_5 (a0 : Session) (a1 : Evt) (p46 : Session) (o : Bool) : Ex × Fr × St :=
  (.normal, frOf 142 (upd (upd (upd (upd anyF 2 (.ptr 0 0 0)) 3 (.ptr 1 0 0)) 4 (.ptr 2 0 0)) 88 (.bool o)), [some ⟨.box, 5, [[.int .i64 a0.state, .int .i64 a0.hold, .int .i64 a0.left, .int .i64 a0.quiet, .int .i64 a0.ups]]⟩, some ⟨.box, 2, [[.int .i64 a1.kind, .int .i64 a1.n]]⟩, some ⟨.box, 5, [[.int .i64 p46.state, .int .i64 p46.hold, .int .i64 p46.left, .int .i64 p46.quiet, .int .i64 p46.ups]]⟩])
theorem e44_5 (a0 : Session) (a1 : Evt) (p46 : Session) (o : Bool) (h : m44_5 a0 a1 = some o) : evCL T 0 k44_5 (frOf 142 (upd (upd (upd anyF 2 (.ptr 0 0 0)) 3 (.ptr 1 0 0)) 4 (.ptr 2 0 0))) [some ⟨.box, 5, [[.int .i64 a0.state, .int .i64 a0.hold, .int .i64 a0.left, .int .i64 a0.quiet, .int .i64 a0.ups]]⟩, some ⟨.box, 2, [[.int .i64 a1.kind, .int .i64 a1.n]]⟩, some ⟨.box, 5, [[.int .i64 p46.state, .int .i64 p46.hold, .int .i64 p46.left, .int .i64 p46.quiet, .int .i64 p46.ups]]⟩] = some (X44_5 a0 a1 p46 o) := by
  unfold m44_5 at h
  try simp -implicitDefEqProofs only [go_sem, Nat.reduceLT, Nat.reduceAdd, Nat.reduceSub, Nat.reduceMul, Nat.reduceEqDiff, Nat.reduceBEq, Nat.reduceLeDiff, Int.reduceToNat, Int.reduceLT, Int.reduceLE, Int.reduceEq, reduceCtorEq, ↓reduceIte, X44_5, k44_5]
  cases b47 : (eqI a1.kind 7 : Bool)
  · replace h := br_f b47 h
    cases h
    simp -implicitDefEqProofs only [go_sem, Nat.reduceLT, Nat.reduceAdd, Nat.reduceSub, Nat.reduceMul, Nat.reduceEqDiff, Nat.reduceBEq, Nat.reduceLeDiff, Int.reduceToNat, Int.reduceLT, Int.reduceLE, Int.reduceEq, reduceCtorEq, ↓reduceIte, X44_5, k44_5, b47]
  · replace h := br_t b47 h
    cases h
    simp -implicitDefEqProofs only [go_sem, Nat.reduceLT, Nat.reduceAdd, Nat.reduceSub, Nat.reduceMul, Nat.reduceEqDiff, Nat.reduceBEq, Nat.reduceLeDiff, Int.reduceToNat, Int.reduceLT, Int.reduceLE, Int.reduceEq, reduceCtorEq, ↓reduceIte, X44_5, k44_5, b47]
def X44_6 (a0 : Session) (a1 : Evt) (p52 : Session) (o : Bool) : Ex × Fr × St :=
  (.normal, frOf 142 (upd (upd (upd (upd anyF 2 (.ptr 0 0 0)) 3 (.ptr 1 0 0)) 4 (.ptr 2 0 0)) 107 (.bool o)), [some ⟨.box, 5, [[.int .i64 a0.state, .int .i64 a0.hold, .int .i64 a0.left, .int .i64 a0.quiet, .int .i64 a0.ups]]⟩, some ⟨.box, 2, [[.int .i64 a1.kind, .int .i64 a1.n]]⟩, some ⟨.box, 5, [[.int .i64 p52.state, .int .i64 p52.hold, .int .i64 p52.left, .int .i64 p52.quiet, .int .i64 p52.ups]]⟩])
theorem e44_6 (a0 : Session) (a1 : Evt) (p52 : Session) (o : Bool) (h : m44_6 a0 a1 = some o) : evCL T 0 k44_6 (frOf 142 (upd (upd (upd anyF 2 (.ptr 0 0 0)) 3 (.ptr 1 0 0)) 4 (.ptr 2 0 0))) [some ⟨.box, 5, [[.int .i64 a0.state, .int .i64 a0.hold, .int .i64 a0.left, .int .i64 a0.quiet, .int .i64 a0.ups]]⟩, some ⟨.box, 2, [[.int .i64 a1.kind, .int .i64 a1.n]]⟩, some ⟨.box, 5, [[.int .i64 p52.state, .int .i64 p52.hold, .int .i64 p52.left, .int .i64 p52.quiet, .int .i64 p52.ups]]⟩] = some (X44_6 a0 a1 p52 o) := by
  unfold m44_6 at h
  try simp -implicitDefEqProofs only [go_sem, Nat.reduceLT, Nat.reduceAdd, Nat.reduceSub, Nat.reduceMul, Nat.reduceEqDiff, Nat.reduceBEq, Nat.reduceLeDiff, Int.reduceToNat, Int.reduceLT, Int.reduceLE, Int.reduceEq, reduceCtorEq, ↓reduceIte, X44_6, k44_6]
  cases b53 : (eqI a1.kind 7 : Bool)
  · replace h := br_f b53 h
    try simp -implicitDefEqProofs only [go_sem, Nat.reduceLT, Nat.reduceAdd, Nat.reduceSub, Nat.reduceMul, Nat.reduceEqDiff, Nat.reduceBEq, Nat.reduceLeDiff, Int.reduceToNat, Int.reduceLT, Int.reduceLE, Int.reduceEq, reduceCtorEq, ↓reduceIte, X44_6, k44_6, b53]
    cases b54 : (eqI a1.kind 8 : Bool)
    · replace h := br_f b54 h
      cases h
      simp -implicitDefEqProofs only [go_sem, Nat.reduceLT, Nat.reduceAdd, Nat.reduceSub, Nat.reduceMul, Nat.reduceEqDiff, Nat.reduceBEq, Nat.reduceLeDiff, Int.reduceToNat, Int.reduceLT, Int.reduceLE, Int.reduceEq, reduceCtorEq, ↓reduceIte, X44_6, k44_6, b53, b54]
    · replace h := br_t b54 h
      cases h
      simp -implicitDefEqProofs only [go_sem, Nat.reduceLT, Nat.reduceAdd, Nat.reduceSub, Nat.reduceMul, Nat.reduceEqDiff, Nat.reduceBEq, Nat.reduceLeDiff, Int.reduceToNat, Int.reduceLT, Int.reduceLE, Int.reduceEq, reduceCtorEq, ↓reduceIte, X44_6, k44_6, b53, b54]
  · replace h := br_t b53 h
    cases h
    simp -implicitDefEqProofs only [go_sem, Nat.reduceLT, Nat.reduceAdd, Nat.reduceSub, Nat.reduceMul, Nat.reduceEqDiff, Nat.reduceBEq, Nat.reduceLeDiff, Int.reduceToNat, Int.reduceLT, Int.reduceLE, Int.reduceEq, reduceCtorEq, ↓reduceIte, X44_6, k44_6, b53]
theorem call44 (args : List AV) (S : St) : evCall T (evFL T) 44 args S = lendC (evFL T 44) S (lendAll S [[0, 0, 0, 0, 0], [0, 0]] args) := evCall0 fn44 rfl rfl args S
theorem callz44 (args : List AV) (S : St) : evCallFz T (evFL T) 44 args S = lendZ (evFL T 44) S [[0, 0, 0, 0, 0], [1]] (lendAll S [[0, 0, 0, 0, 0], [0, 0]] args) := evCallFz0 fn44 rfl rfl args S
attribute [go_sem] call44 callz44
theorem e44 (a0 : Session) (a1 : Evt) (r : (Session × (List Int))) (h : m44 a0 a1 = some r) : evFL T 44 [.agg [.int .i64 a0.state, .int .i64 a0.hold, .int .i64 a0.left, .int .i64 a0.quiet, .int .i64 a0.ups], .agg [.int .i64 a1.kind, .int .i64 a1.n]] [] = some (.tup [.agg [.int .i64 r.1.state, .int .i64 r.1.hold, .int .i64 r.1.left, .int .i64 r.1.quiet, .int .i64 r.1.ups], .sl 0 0 r.2.length], [some ⟨.arr, 1, r.2.map encInt⟩]) := by
  unfold m44 at h
  rw [evFL_at fn44 (Nat.le_of_ble_eq_true rfl) rfl (.inr rfl)]
  obtain ⟨v6, q4, h⟩ := bnd_some h
  have w5 := e44_1 (leI 2 a0.state) a0 a1 (⟨0, 0, 0, 0, 0⟩ : Session) v6 q4
  simp only [X44_1] at w5
  try simp -implicitDefEqProofs only [go_sem, Nat.reduceLT, Nat.reduceAdd, Nat.reduceSub, Nat.reduceMul, Nat.reduceEqDiff, Nat.reduceBEq, Nat.reduceLeDiff, Int.reduceToNat, Int.reduceLT, Int.reduceLE, Int.reduceEq, reduceCtorEq, ↓reduceIte] at w5
  try simp -implicitDefEqProofs only [go_sem, Nat.reduceLT, Nat.reduceAdd, Nat.reduceSub, Nat.reduceMul, Nat.reduceEqDiff, Nat.reduceBEq, Nat.reduceLeDiff, Int.reduceToNat, Int.reduceLT, Int.reduceLE, Int.reduceEq, reduceCtorEq, ↓reduceIte, i44, c44, w5]
  cases b7 : (v6 : Bool)
  · replace h := br_f b7 h
    obtain ⟨v16, q14, h⟩ := bnd_some h
    have w15 := e44_2 (leI 2 a0.state) a0 a1 (⟨0, 0, 0, 0, 0⟩ : Session) v16 q14
    simp only [X44_2] at w15
    try simp -implicitDefEqProofs only [go_sem, Nat.reduceLT, Nat.reduceAdd, Nat.reduceSub, Nat.reduceMul, Nat.reduceEqDiff, Nat.reduceBEq, Nat.reduceLeDiff, Int.reduceToNat, Int.reduceLT, Int.reduceLE, Int.reduceEq, reduceCtorEq, ↓reduceIte] at w15
    try simp -implicitDefEqProofs only [go_sem, Nat.reduceLT, Nat.reduceAdd, Nat.reduceSub, Nat.reduceMul, Nat.reduceEqDiff, Nat.reduceBEq, Nat.reduceLeDiff, Int.reduceToNat, Int.reduceLT, Int.reduceLE, Int.reduceEq, reduceCtorEq, ↓reduceIte, i44, c44, w5, b7, w15]
    cases b17 : (v16 : Bool)
    · replace h := br_f b17 h
      obtain ⟨v26, q24, h⟩ := bnd_some h
      have w25 := e44_3 (leI 2 a0.state) a0 a1 (⟨0, 0, 0, 0, 0⟩ : Session) v26 q24
      simp only [X44_3] at w25
      try simp -implicitDefEqProofs only [go_sem, Nat.reduceLT, Nat.reduceAdd, Nat.reduceSub, Nat.reduceMul, Nat.reduceEqDiff, Nat.reduceBEq, Nat.reduceLeDiff, Int.reduceToNat, Int.reduceLT, Int.reduceLE, Int.reduceEq, reduceCtorEq, ↓reduceIte] at w25
      try simp -implicitDefEqProofs only [go_sem, Nat.reduceLT, Nat.reduceAdd, Nat.reduceSub, Nat.reduceMul, Nat.reduceEqDiff, Nat.reduceBEq, Nat.reduceLeDiff, Int.reduceToNat, Int.reduceLT, Int.reduceLE, Int.reduceEq, reduceCtorEq, ↓reduceIte, i44, c44, w5, b7, w15, b17, w25]
      cases b27 : (v26 : Bool)
      · replace h := br_f b27 h
        try simp -implicitDefEqProofs only [go_sem, Nat.reduceLT, Nat.reduceAdd, Nat.reduceSub, Nat.reduceMul, Nat.reduceEqDiff, Nat.reduceBEq, Nat.reduceLeDiff, Int.reduceToNat, Int.reduceLT, Int.reduceLE, Int.reduceEq, reduceCtorEq, ↓reduceIte, i44, c44, w5, b7, w15, b17, w25, b27]
        cases b31 : (leI 2 a0.state : Bool)
        · replace h := br_f b31 h
          cases h
          simp -implicitDefEqProofs only [go_sem, Nat.reduceLT, Nat.reduceAdd, Nat.reduceSub, Nat.reduceMul, Nat.reduceEqDiff, Nat.reduceBEq, Nat.reduceLeDiff, Int.reduceToNat, Int.reduceLT, Int.reduceLE, Int.reduceEq, reduceCtorEq, ↓reduceIte, i44, c44, w5, b7, w15, b17, w25, b27, b31]
        · replace h := br_t b31 h
          try simp -implicitDefEqProofs only [go_sem, Nat.reduceLT, Nat.reduceAdd, Nat.reduceSub, Nat.reduceMul, Nat.reduceEqDiff, Nat.reduceBEq, Nat.reduceLeDiff, Int.reduceToNat, Int.reduceLT, Int.reduceLE, Int.reduceEq, reduceCtorEq, ↓reduceIte, i44, c44, w5, b7, w15, b17, w25, b27, b31]
          cases b32 : (eqI a1.kind 4 : Bool)
          · replace h := br_f b32 h
            obtain ⟨v41, q39, h⟩ := bnd_some h
            have w40 := e44_4 a0 a1 (⟨0, 0, 0, 0, 0⟩ : Session) v41 q39
            simp only [X44_4] at w40
            try simp -implicitDefEqProofs only [go_sem, Nat.reduceLT, Nat.reduceAdd, Nat.reduceSub, Nat.reduceMul, Nat.reduceEqDiff, Nat.reduceBEq, Nat.reduceLeDiff, Int.reduceToNat, Int.reduceLT, Int.reduceLE, Int.reduceEq, reduceCtorEq, ↓reduceIte] at w40
            try simp -implicitDefEqProofs only [go_sem, Nat.reduceLT, Nat.reduceAdd, Nat.reduceSub, Nat.reduceMul, Nat.reduceEqDiff, Nat.reduceBEq, Nat.reduceLeDiff, Int.reduceToNat, Int.reduceLT, Int.reduceLE, Int.reduceEq, reduceCtorEq, ↓reduceIte, i44, c44, w5, b7, w15, b17, w25, b27, b31, b32, w40]
            cases b42 : (v41 : Bool)
            · replace h := br_f b42 h
              obtain ⟨v50, q48, h⟩ := bnd_some h
              have w49 := e44_5 a0 a1 (⟨0, 0, 0, 0, 0⟩ : Session) v50 q48
              simp only [X44_5] at w49
              try simp -implicitDefEqProofs only [go_sem, Nat.reduceLT, Nat.reduceAdd, Nat.reduceSub, Nat.reduceMul, Nat.reduceEqDiff, Nat.reduceBEq, Nat.reduceLeDiff, Int.reduceToNat, Int.reduceLT, Int.reduceLE, Int.reduceEq, reduceCtorEq, ↓reduceIte] at w49
              try simp -implicitDefEqProofs only [go_sem, Nat.reduceLT, Nat.reduceAdd, Nat.reduceSub, Nat.reduceMul, Nat.reduceEqDiff, Nat.reduceBEq, Nat.reduceLeDiff, Int.reduceToNat, Int.reduceLT, Int.reduceLE, Int.reduceEq, reduceCtorEq, ↓reduceIte, i44, c44, w5, b7, w15, b17, w25, b27, b31, b32, w40, b42, w49]
              cases b51 : (v50 : Bool)
              · replace h := br_f b51 h
                obtain ⟨v57, q55, h⟩ := bnd_some h
                have w56 := e44_6 a0 a1 (⟨0, 0, 0, 0, 0⟩ : Session) v57 q55
                simp only [X44_6] at w56
                try simp -implicitDefEqProofs only [go_sem, Nat.reduceLT, Nat.reduceAdd, Nat.reduceSub, Nat.reduceMul, Nat.reduceEqDiff, Nat.reduceBEq, Nat.reduceLeDiff, Int.reduceToNat, Int.reduceLT, Int.reduceLE, Int.reduceEq, reduceCtorEq, ↓reduceIte] at w56
                try simp -implicitDefEqProofs only [go_sem, Nat.reduceLT, Nat.reduceAdd, Nat.reduceSub, Nat.reduceMul, Nat.reduceEqDiff, Nat.reduceBEq, Nat.reduceLeDiff, Int.reduceToNat, Int.reduceLT, Int.reduceLE, Int.reduceEq, reduceCtorEq, ↓reduceIte, i44, c44, w5, b7, w15, b17, w25, b27, b31, b32, w40, b42, w49, b51, w56]
                cases b58 : (v57 : Bool)
                · replace h := br_f b58 h
                  try simp -implicitDefEqProofs only [go_sem, Nat.reduceLT, Nat.reduceAdd, Nat.reduceSub, Nat.reduceMul, Nat.reduceEqDiff, Nat.reduceBEq, Nat.reduceLeDiff, Int.reduceToNat, Int.reduceLT, Int.reduceLE, Int.reduceEq, reduceCtorEq, ↓reduceIte, i44, c44, w5, b7, w15, b17, w25, b27, b31, b32, w40, b42, w49, b51, w56, b58]
                  cases b59 : (eqI a1.kind 9 : Bool)
                  · replace h := br_f b59 h
                    try simp -implicitDefEqProofs only [go_sem, Nat.reduceLT, Nat.reduceAdd, Nat.reduceSub, Nat.reduceMul, Nat.reduceEqDiff, Nat.reduceBEq, Nat.reduceLeDiff, Int.reduceToNat, Int.reduceLT, Int.reduceLE, Int.reduceEq, reduceCtorEq, ↓reduceIte, i44, c44, w5, b7, w15, b17, w25, b27, b31, b32, w40, b42, w49, b51, w56, b58, b59]
                    cases b63 : (eqI a1.kind 10 : Bool)
                    · replace h := br_f b63 h
                      obtain ⟨r70, q68, h⟩ := bnd_some h
                      have w69 := e61 a0 0 r70 q68
                      try simp -implicitDefEqProofs only [go_sem, Nat.reduceLT, Nat.reduceAdd, Nat.reduceSub, Nat.reduceMul, Nat.reduceEqDiff, Nat.reduceBEq, Nat.reduceLeDiff, Int.reduceToNat, Int.reduceLT, Int.reduceLE, Int.reduceEq, reduceCtorEq, ↓reduceIte] at w69
                      cases h
                      simp -implicitDefEqProofs only [go_sem, Nat.reduceLT, Nat.reduceAdd, Nat.reduceSub, Nat.reduceMul, Nat.reduceEqDiff, Nat.reduceBEq, Nat.reduceLeDiff, Int.reduceToNat, Int.reduceLT, Int.reduceLE, Int.reduceEq, reduceCtorEq, ↓reduceIte, i44, c44, w5, b7, w15, b17, w25, b27, b31, b32, w40, b42, w49, b51, w56, b58, b59, b63, w69]
                    · replace h := br_t b63 h
                      obtain ⟨⟨r66, r67⟩, q64, h⟩ := bnd_some h
                      replace h := sel2_some h
                      have w65 := e62 a0 (r66, r67) q64
                      try simp -implicitDefEqProofs only [go_sem, Nat.reduceLT, Nat.reduceAdd, Nat.reduceSub, Nat.reduceMul, Nat.reduceEqDiff, Nat.reduceBEq, Nat.reduceLeDiff, Int.reduceToNat, Int.reduceLT, Int.reduceLE, Int.reduceEq, reduceCtorEq, ↓reduceIte] at w65
                      cases h
                      simp -implicitDefEqProofs only [go_sem, Nat.reduceLT, Nat.reduceAdd, Nat.reduceSub, Nat.reduceMul, Nat.reduceEqDiff, Nat.reduceBEq, Nat.reduceLeDiff, Int.reduceToNat, Int.reduceLT, Int.reduceLE, Int.reduceEq, reduceCtorEq, ↓reduceIte, i44, c44, w5, b7, w15, b17, w25, b27, b31, b32, w40, b42, w49, b51, w56, b58, b59, b63, w65]
                  · replace h := br_t b59 h
                    obtain ⟨r62, q60, h⟩ := bnd_some h
                    have w61 := e61 a0 0 r62 q60
                    try simp -implicitDefEqProofs only [go_sem, Nat.reduceLT, Nat.reduceAdd, Nat.reduceSub, Nat.reduceMul, Nat.reduceEqDiff, Nat.reduceBEq, Nat.reduceLeDiff, Int.reduceToNat, Int.reduceLT, Int.reduceLE, Int.reduceEq, reduceCtorEq, ↓reduceIte] at w61
                    cases h
                    simp -implicitDefEqProofs only [go_sem, Nat.reduceLT, Nat.reduceAdd, Nat.reduceSub, Nat.reduceMul, Nat.reduceEqDiff, Nat.reduceBEq, Nat.reduceLeDiff, Int.reduceToNat, Int.reduceLT, Int.reduceLE, Int.reduceEq, reduceCtorEq, ↓reduceIte, i44, c44, w5, b7, w15, b17, w25, b27, b31, b32, w40, b42, w49, b51, w56, b58, b59, w61]
                · replace h := br_t b58 h
                  cases h
                  simp -implicitDefEqProofs only [go_sem, Nat.reduceLT, Nat.reduceAdd, Nat.reduceSub, Nat.reduceMul, Nat.reduceEqDiff, Nat.reduceBEq, Nat.reduceLeDiff, Int.reduceToNat, Int.reduceLT, Int.reduceLE, Int.reduceEq, reduceCtorEq, ↓reduceIte, i44, c44, w5, b7, w15, b17, w25, b27, b31, b32, w40, b42, w49, b51, w56, b58]
              · replace h := br_t b51 h
                cases h
                simp -implicitDefEqProofs only [go_sem, Nat.reduceLT, Nat.reduceAdd, Nat.reduceSub, Nat.reduceMul, Nat.reduceEqDiff, Nat.reduceBEq, Nat.reduceLeDiff, Int.reduceToNat, Int.reduceLT, Int.reduceLE, Int.reduceEq, reduceCtorEq, ↓reduceIte, i44, c44, w5, b7, w15, b17, w25, b27, b31, b32, w40, b42, w49, b51]
            · replace h := br_t b42 h
              obtain ⟨r45, q43, h⟩ := bnd_some h
              have w44 := e61 a0 3 r45 q43
              try simp -implicitDefEqProofs only [go_sem, Nat.reduceLT, Nat.reduceAdd, Nat.reduceSub, Nat.reduceMul, Nat.reduceEqDiff, Nat.reduceBEq, Nat.reduceLeDiff, Int.reduceToNat, Int.reduceLT, Int.reduceLE, Int.reduceEq, reduceCtorEq, ↓reduceIte] at w44
              cases h
              simp -implicitDefEqProofs only [go_sem, Nat.reduceLT, Nat.reduceAdd, Nat.reduceSub, Nat.reduceMul, Nat.reduceEqDiff, Nat.reduceBEq, Nat.reduceLeDiff, Int.reduceToNat, Int.reduceLT, Int.reduceLE, Int.reduceEq, reduceCtorEq, ↓reduceIte, i44, c44, w5, b7, w15, b17, w25, b27, b31, b32, w40, b42, w44]
          · replace h := br_t b32 h
            obtain ⟨r35, q33, h⟩ := bnd_some h
            have w34 := e61 a0 1 r35 q33
            try simp -implicitDefEqProofs only [go_sem, Nat.reduceLT, Nat.reduceAdd, Nat.reduceSub, Nat.reduceMul, Nat.reduceEqDiff, Nat.reduceBEq, Nat.reduceLeDiff, Int.reduceToNat, Int.reduceLT, Int.reduceLE, Int.reduceEq, reduceCtorEq, ↓reduceIte] at w34
            cases h
            simp -implicitDefEqProofs only [go_sem, Nat.reduceLT, Nat.reduceAdd, Nat.reduceSub, Nat.reduceMul, Nat.reduceEqDiff, Nat.reduceBEq, Nat.reduceLeDiff, Int.reduceToNat, Int.reduceLT, Int.reduceLE, Int.reduceEq, reduceCtorEq, ↓reduceIte, i44, c44, w5, b7, w15, b17, w25, b27, b31, b32, w34]
      · replace h := br_t b27 h
        obtain ⟨r30, q28, h⟩ := bnd_some h
        have w29 := e61 a0 2 r30 q28
        try simp -implicitDefEqProofs only [go_sem, Nat.reduceLT, Nat.reduceAdd, Nat.reduceSub, Nat.reduceMul, Nat.reduceEqDiff, Nat.reduceBEq, Nat.reduceLeDiff, Int.reduceToNat, Int.reduceLT, Int.reduceLE, Int.reduceEq, reduceCtorEq, ↓reduceIte] at w29
        cases h
        simp -implicitDefEqProofs only [go_sem, Nat.reduceLT, Nat.reduceAdd, Nat.reduceSub, Nat.reduceMul, Nat.reduceEqDiff, Nat.reduceBEq, Nat.reduceLeDiff, Int.reduceToNat, Int.reduceLT, Int.reduceLE, Int.reduceEq, reduceCtorEq, ↓reduceIte, i44, c44, w5, b7, w15, b17, w25, b27, w29]
    · replace h := br_t b17 h
      obtain ⟨r20, q18, h⟩ := bnd_some h
      have w19 := e61 a0 0 r20 q18
      try simp -implicitDefEqProofs only [go_sem, Nat.reduceLT, Nat.reduceAdd, Nat.reduceSub, Nat.reduceMul, Nat.reduceEqDiff, Nat.reduceBEq, Nat.reduceLeDiff, Int.reduceToNat, Int.reduceLT, Int.reduceLE, Int.reduceEq, reduceCtorEq, ↓reduceIte] at w19
      cases h
      simp -implicitDefEqProofs only [go_sem, Nat.reduceLT, Nat.reduceAdd, Nat.reduceSub, Nat.reduceMul, Nat.reduceEqDiff, Nat.reduceBEq, Nat.reduceLeDiff, Int.reduceToNat, Int.reduceLT, Int.reduceLE, Int.reduceEq, reduceCtorEq, ↓reduceIte, i44, c44, w5, b7, w15, b17, w19]
  · replace h := br_t b7 h
    obtain ⟨r10, q8, h⟩ := bnd_some h
    have w9 := e61 a0 1 r10 q8
    try simp -implicitDefEqProofs only [go_sem, Nat.reduceLT, Nat.reduceAdd, Nat.reduceSub, Nat.reduceMul, Nat.reduceEqDiff, Nat.reduceBEq, Nat.reduceLeDiff, Int.reduceToNat, Int.reduceLT, Int.reduceLE, Int.reduceEq, reduceCtorEq, ↓reduceIte] at w9
    cases h
    simp -implicitDefEqProofs only [go_sem, Nat.reduceLT, Nat.reduceAdd, Nat.reduceSub, Nat.reduceMul, Nat.reduceEqDiff, Nat.reduceBEq, Nat.reduceLeDiff, Int.reduceToNat, Int.reduceLT, Int.reduceLE, Int.reduceEq, reduceCtorEq, ↓reduceIte, i44, c44, w5, b7, w9]
-- f28 impl.PlayEvents
def X28_1 (a1 : (List Evt)) (r4 : Bool) (p5 : Session) (r3 : Session) (o : Bool) : Ex × Fr × St :=
  (.normal, frOf 51 (upd (upd (upd (upd anyF 1 (.ts .imm 2 (a1.map encEvt))) 4 (.ptr 0 0 0)) 7 (.ptr 1 0 0)) 29 (.bool o)), [some ⟨.box, 5, [[.int .i64 p5.state, .int .i64 p5.hold, .int .i64 p5.left, .int .i64 p5.quiet, .int .i64 p5.ups]]⟩, some ⟨.box, 5, [[.int .i64 r3.state, .int .i64 r3.hold, .int .i64 r3.left, .int .i64 r3.quiet, .int .i64 r3.ups]]⟩])
theorem e28_1 (a1 : (List Evt)) (r4 : Bool) (p5 : Session) (r3 : Session) (o : Bool) (h : m28_1 a1 r4 = some o) : evCL T 0 k28_1 (frOf 51 (upd (upd (upd (upd anyF 1 (.ts .imm 2 (a1.map encEvt))) 4 (.ptr 0 0 0)) 7 (.ptr 1 0 0)) 8 (.bool r4))) [some ⟨.box, 5, [[.int .i64 p5.state, .int .i64 p5.hold, .int .i64 p5.left, .int .i64 p5.quiet, .int .i64 p5.ups]]⟩, some ⟨.box, 5, [[.int .i64 r3.state, .int .i64 r3.hold, .int .i64 r3.left, .int .i64 r3.quiet, .int .i64 r3.ups]]⟩] = some (X28_1 a1 r4 p5 r3 o) := by
  unfold m28_1 at h
  try simp -implicitDefEqProofs only [go_sem, Nat.reduceLT, Nat.reduceAdd, Nat.reduceSub, Nat.reduceMul, Nat.reduceEqDiff, Nat.reduceBEq, Nat.reduceLeDiff, Int.reduceToNat, Int.reduceLT, Int.reduceLE, Int.reduceEq, reduceCtorEq, ↓reduceIte, X28_1, k28_1]
  cases b6 : (r4 : Bool)
  · replace h := br_f b6 h
    cases h
    simp -implicitDefEqProofs only [go_sem, Nat.reduceLT, Nat.reduceAdd, Nat.reduceSub, Nat.reduceMul, Nat.reduceEqDiff, Nat.reduceBEq, Nat.reduceLeDiff, Int.reduceToNat, Int.reduceLT, Int.reduceLE, Int.reduceEq, reduceCtorEq, ↓reduceIte, X28_1, k28_1, b6]
  · replace h := br_t b6 h
    try simp -implicitDefEqProofs only [go_sem, Nat.reduceLT, Nat.reduceAdd, Nat.reduceSub, Nat.reduceMul, Nat.reduceEqDiff, Nat.reduceBEq, Nat.reduceLeDiff, Int.reduceToNat, Int.reduceLT, Int.reduceLE, Int.reduceEq, reduceCtorEq, ↓reduceIte, X28_1, k28_1, b6]
    cases b7 : (ltI 100 (↑a1.length : Int) : Bool)
    · replace h := br_f b7 h
      obtain ⟨r10, q8, h⟩ := bnd_some h
      have w9 := e45 a1 (fun y0 => m46 y0) 46 [] ⟨⟨fun S => by simp -implicitDefEqProofs only [go_sem, Nat.reduceLT, Nat.reduceAdd, Nat.reduceSub, Nat.reduceMul, Nat.reduceEqDiff, Nat.reduceBEq, Nat.reduceLeDiff, Int.reduceToNat, Int.reduceLT, Int.reduceLE, Int.reduceEq, reduceCtorEq, ↓reduceIte], fun _ _ _ _ _ _ => by simp -implicitDefEqProofs only [go_sem, Nat.reduceLT, Nat.reduceAdd, Nat.reduceSub, Nat.reduceMul, Nat.reduceEqDiff, Nat.reduceBEq, Nat.reduceLeDiff, Int.reduceToNat, Int.reduceLT, Int.reduceLE, Int.reduceEq, reduceCtorEq, ↓reduceIte]⟩, fun y0 r h => ⟨fun S => by simp -implicitDefEqProofs only [go_sem, Nat.reduceLT, Nat.reduceAdd, Nat.reduceSub, Nat.reduceMul, Nat.reduceEqDiff, Nat.reduceBEq, Nat.reduceLeDiff, Int.reduceToNat, Int.reduceLT, Int.reduceLE, Int.reduceEq, reduceCtorEq, ↓reduceIte, e46 y0 r h], fun S => by simp -implicitDefEqProofs only [go_sem, Nat.reduceLT, Nat.reduceAdd, Nat.reduceSub, Nat.reduceMul, Nat.reduceEqDiff, Nat.reduceBEq, Nat.reduceLeDiff, Int.reduceToNat, Int.reduceLT, Int.reduceLE, Int.reduceEq, reduceCtorEq, ↓reduceIte, e46 y0 r h]⟩⟩ r10 q8
      try simp -implicitDefEqProofs only [go_sem, Nat.reduceLT, Nat.reduceAdd, Nat.reduceSub, Nat.reduceMul, Nat.reduceEqDiff, Nat.reduceBEq, Nat.reduceLeDiff, Int.reduceToNat, Int.reduceLT, Int.reduceLE, Int.reduceEq, reduceCtorEq, ↓reduceIte] at w9
      cases h
      simp -implicitDefEqProofs only [go_sem, Nat.reduceLT, Nat.reduceAdd, Nat.reduceSub, Nat.reduceMul, Nat.reduceEqDiff, Nat.reduceBEq, Nat.reduceLeDiff, Int.reduceToNat, Int.reduceLT, Int.reduceLE, Int.reduceEq, reduceCtorEq, ↓reduceIte, X28_1, k28_1, b6, b7, w9]
    · replace h := br_t b7 h
      cases h
      simp -implicitDefEqProofs only [go_sem, Nat.reduceLT, Nat.reduceAdd, Nat.reduceSub, Nat.reduceMul, Nat.reduceEqDiff, Nat.reduceBEq, Nat.reduceLeDiff, Int.reduceToNat, Int.reduceLT, Int.reduceLE, Int.reduceEq, reduceCtorEq, ↓reduceIte, X28_1, k28_1, b6, b7]
def X28_2 (a1 : (List Evt)) (p15 : Int) (p16 : Session) (o : (Session × List Int)) : Ex × Fr × St :=
  (.exit 0, frOf 51 (upd (upd (upd anyF 4 (.ptr 0 0 0)) 7 (.ptr 1 0 0)) 9 (.sl 2 0 o.2.length)), [some ⟨.box, 5, [[.int .i64 p16.state, .int .i64 p16.hold, .int .i64 p16.left, .int .i64 p16.quiet, .int .i64 p16.ups]]⟩, some ⟨.box, 5, [[.int .i64 o.1.state, .int .i64 o.1.hold, .int .i64 o.1.left, .int .i64 o.1.quiet, .int .i64 o.1.ups]]⟩, some ⟨.arr, 1, o.2.map encInt⟩])
def E28_2 (a1 : (List Evt)) (p15 : Int) (p16 : Session) (s : (Int × Session × List Int)) : Fr × St := (frOf 51 (upd (upd (upd (upd (upd (upd anyF 4 (.ptr 0 0 0)) 7 (.ptr 1 0 0)) 9 (.sl 2 0 s.2.2.length)) 32 (.ts .imm 2 (a1.map encEvt))) 33 (.int .i64 p15)) 34 (.int .i64 s.1)), [some ⟨.box, 5, [[.int .i64 p16.state, .int .i64 p16.hold, .int .i64 p16.left, .int .i64 p16.quiet, .int .i64 p16.ups]]⟩, some ⟨.box, 5, [[.int .i64 s.2.1.state, .int .i64 s.2.1.hold, .int .i64 s.2.1.left, .int .i64 s.2.1.quiet, .int .i64 s.2.1.ups]]⟩, some ⟨.arr, 1, s.2.2.map encInt⟩])
theorem b28_2 (a1 : (List Evt)) (p15 : Int) (p16 : Session) (s : (Int × Session × List Int)) (o : Ctl (Int × Session × List Int) (Session × List Int)) (h : m28_2b a1 p15 s = some o) : evCL T 0 k28_2b (E28_2 a1 p15 p16 s).1 (E28_2 a1 p15 p16 s).2 = some (ctlX (E28_2 a1 p15 p16) (X28_2 a1 p15 p16) o) := by
  unfold m28_2b at h
  obtain ⟨s28, s29, s30⟩ := s
  replace h := sel3_some h
  try simp -implicitDefEqProofs only [go_sem, Nat.reduceLT, Nat.reduceAdd, Nat.reduceSub, Nat.reduceMul, Nat.reduceEqDiff, Nat.reduceBEq, Nat.reduceLeDiff, Int.reduceToNat, Int.reduceLT, Int.reduceLE, Int.reduceEq, reduceCtorEq, ↓reduceIte, E28_2, X28_2, k28_2b]
  cases b31 : (ltI s28 p15 : Bool)
  · replace h := br_f b31 h
    cases h
    simp -implicitDefEqProofs only [go_sem, Nat.reduceLT, Nat.reduceAdd, Nat.reduceSub, Nat.reduceMul, Nat.reduceEqDiff, Nat.reduceBEq, Nat.reduceLeDiff, Int.reduceToNat, Int.reduceLT, Int.reduceLE, Int.reduceEq, reduceCtorEq, ↓reduceIte, E28_2, X28_2, k28_2b, b31]
  · replace h := br_t b31 h
    obtain ⟨x32, q33, h⟩ := bnd_some h
    obtain ⟨g34, g35, g36⟩ := idx_row encEvt q33
    try simp -implicitDefEqProofs only [go_sem, Nat.reduceLT, Nat.reduceAdd, Nat.reduceSub, Nat.reduceMul, Nat.reduceEqDiff, Nat.reduceBEq, Nat.reduceLeDiff, Int.reduceToNat, Int.reduceLT, Int.reduceLE, Int.reduceEq, reduceCtorEq, ↓reduceIte] at g35
    try simp -implicitDefEqProofs only [go_sem, Nat.reduceLT, Nat.reduceAdd, Nat.reduceSub, Nat.reduceMul, Nat.reduceEqDiff, Nat.reduceBEq, Nat.reduceLeDiff, Int.reduceToNat, Int.reduceLT, Int.reduceLE, Int.reduceEq, reduceCtorEq, ↓reduceIte] at g36
    obtain ⟨⟨r39, r40⟩, q37, h⟩ := bnd_some h
    replace h := sel2_some h
    have w38 := e44 s29 x32 (r39, r40) q37
    try simp -implicitDefEqProofs only [go_sem, Nat.reduceLT, Nat.reduceAdd, Nat.reduceSub, Nat.reduceMul, Nat.reduceEqDiff, Nat.reduceBEq, Nat.reduceLeDiff, Int.reduceToNat, Int.reduceLT, Int.reduceLE, Int.reduceEq, reduceCtorEq, ↓reduceIte] at w38
    obtain ⟨g41, h⟩ := ck_some h
    try simp -implicitDefEqProofs only [go_sem, Nat.reduceLT, Nat.reduceAdd, Nat.reduceSub, Nat.reduceMul, Nat.reduceEqDiff, Nat.reduceBEq, Nat.reduceLeDiff, Int.reduceToNat, Int.reduceLT, Int.reduceLE, Int.reduceEq, reduceCtorEq, ↓reduceIte] at g41
    cases h
    simp -implicitDefEqProofs only [go_sem, Nat.reduceLT, Nat.reduceAdd, Nat.reduceSub, Nat.reduceMul, Nat.reduceEqDiff, Nat.reduceBEq, Nat.reduceLeDiff, Int.reduceToNat, Int.reduceLT, Int.reduceLE, Int.reduceEq, reduceCtorEq, ↓reduceIte, E28_2, X28_2, k28_2b, b31, g34, g35, g36, w38, g41]
theorem e28_2 (a1 : (List Evt)) (p15 : Int) (p16 : Session) (s : (Int × Session × List Int)) (o : (Session × List Int)) (h : loopP (m28_2b a1 p15) s = some o) : evCL T 0 (.loop k28_2b) (E28_2 a1 p15 p16 s).1 (E28_2 a1 p15 p16 s).2 = some (X28_2 a1 p15 p16 o) :=
  loop_walk (E := E28_2 a1 p15 p16) (X := X28_2 a1 p15 p16) (by intro b; (simp only [X28_2]; nofun)) (b28_2 a1 p15 p16) s o h
theorem call28 (args : List AV) (S : St) : evCall T (evFL T) 28 args S = lendC (evFL T 28) S (lendAll S [[0], [2]] args) := evCall0 fn28 rfl rfl args S
theorem callz28 (args : List AV) (S : St) : evCallFz T (evFL T) 28 args S = lendZ (evFL T 28) S [[0, 0, 0, 0, 0], [1], [0]] (lendAll S [[0], [2]] args) := evCallFz0 fn28 rfl rfl args S
attribute [go_sem] call28 callz28
theorem e28 (a0 : Int) (a1 : (List Evt)) (r : (Session × (List Int) × Bool)) (h : m28 a0 a1 = some r) : evFL T 28 [.int .i64 a0, .ts .imm 2 (a1.map encEvt)] [] = some (.tup [.agg [.int .i64 r.1.state, .int .i64 r.1.hold, .int .i64 r.1.left, .int .i64 r.1.quiet, .int .i64 r.1.ups], .sl 0 0 r.2.1.length, .bool r.2.2], [some ⟨.arr, 1, r.2.1.map encInt⟩]) := by
  unfold m28 at h
  rw [evFL_at fn28 (Nat.le_of_ble_eq_true rfl) rfl (.inr rfl)]
  obtain ⟨⟨r3, r4⟩, q1, h⟩ := bnd_some h
  replace h := sel2_some h
  have w2 := e12 a0 (r3, r4) q1
  try simp -implicitDefEqProofs only [go_sem, Nat.reduceLT, Nat.reduceAdd, Nat.reduceSub, Nat.reduceMul, Nat.reduceEqDiff, Nat.reduceBEq, Nat.reduceLeDiff, Int.reduceToNat, Int.reduceLT, Int.reduceLE, Int.reduceEq, reduceCtorEq, ↓reduceIte] at w2
  obtain ⟨v13, q11, h⟩ := bnd_some h
  have w12 := e28_1 a1 r4 (⟨0, 0, 0, 0, 0⟩ : Session) r3 v13 q11
  simp only [X28_1] at w12
  try simp -implicitDefEqProofs only [go_sem, Nat.reduceLT, Nat.reduceAdd, Nat.reduceSub, Nat.reduceMul, Nat.reduceEqDiff, Nat.reduceBEq, Nat.reduceLeDiff, Int.reduceToNat, Int.reduceLT, Int.reduceLE, Int.reduceEq, reduceCtorEq, ↓reduceIte] at w12
  try simp -implicitDefEqProofs only [go_sem, Nat.reduceLT, Nat.reduceAdd, Nat.reduceSub, Nat.reduceMul, Nat.reduceEqDiff, Nat.reduceBEq, Nat.reduceLeDiff, Int.reduceToNat, Int.reduceLT, Int.reduceLE, Int.reduceEq, reduceCtorEq, ↓reduceIte, i28, c28, w2, w12]
  cases b14 : (v13 : Bool)
  · replace h := br_f b14 h
    obtain ⟨⟨v44, v45⟩, q42, h⟩ := bnd_some h
    replace h := sel2_some h
    have w43 := e28_2 a1 (↑a1.length : Int) (⟨0, 0, 0, 0, 0⟩ : Session) (0, r3, []) (v44, v45) q42
    simp only [E28_2, X28_2] at w43
    try simp -implicitDefEqProofs only [go_sem, Nat.reduceLT, Nat.reduceAdd, Nat.reduceSub, Nat.reduceMul, Nat.reduceEqDiff, Nat.reduceBEq, Nat.reduceLeDiff, Int.reduceToNat, Int.reduceLT, Int.reduceLE, Int.reduceEq, reduceCtorEq, ↓reduceIte] at w43
    cases h
    simp -implicitDefEqProofs only [go_sem, Nat.reduceLT, Nat.reduceAdd, Nat.reduceSub, Nat.reduceMul, Nat.reduceEqDiff, Nat.reduceBEq, Nat.reduceLeDiff, Int.reduceToNat, Int.reduceLT, Int.reduceLE, Int.reduceEq, reduceCtorEq, ↓reduceIte, i28, c28, w2, w12, b14, w43]
  · replace h := br_t b14 h
    cases h
    simp -implicitDefEqProofs only [go_sem, Nat.reduceLT, Nat.reduceAdd, Nat.reduceSub, Nat.reduceMul, Nat.reduceEqDiff, Nat.reduceBEq, Nat.reduceLeDiff, Int.reduceToNat, Int.reduceLT, Int.reduceLE, Int.reduceEq, reduceCtorEq, ↓reduceIte, i28, c28, w2, w12, b14]
-- f39 spec.l1In
def X39_1 (a0 : Int) (a1 : Int) (a2 : Int) (o : Bool) : Ex × Fr × St :=
  (.normal, frOf 15 (upd anyF 6 (.bool o)), [])
theorem e39_1 (a0 : Int) (a1 : Int) (a2 : Int) (o : Bool) (h : m39_1 a0 a1 a2 = some o) : evCL T 0 k39_1 (frOf 15 (upd (upd (upd anyF 0 (.int .i64 a0)) 1 (.int .i64 a1)) 2 (.int .i64 a2))) [] = some (X39_1 a0 a1 a2 o) := by
  unfold m39_1 at h
  try simp -implicitDefEqProofs only [go_sem, Nat.reduceLT, Nat.reduceAdd, Nat.reduceSub, Nat.reduceMul, Nat.reduceEqDiff, Nat.reduceBEq, Nat.reduceLeDiff, Int.reduceToNat, Int.reduceLT, Int.reduceLE, Int.reduceEq, reduceCtorEq, ↓reduceIte, X39_1, k39_1]
  cases b1 : (leI a1 a0 : Bool)
  · replace h := br_f b1 h
    cases h
    simp -implicitDefEqProofs only [go_sem, Nat.reduceLT, Nat.reduceAdd, Nat.reduceSub, Nat.reduceMul, Nat.reduceEqDiff, Nat.reduceBEq, Nat.reduceLeDiff, Int.reduceToNat, Int.reduceLT, Int.reduceLE, Int.reduceEq, reduceCtorEq, ↓reduceIte, X39_1, k39_1, b1]
  · replace h := br_t b1 h
    cases h
    simp -implicitDefEqProofs only [go_sem, Nat.reduceLT, Nat.reduceAdd, Nat.reduceSub, Nat.reduceMul, Nat.reduceEqDiff, Nat.reduceBEq, Nat.reduceLeDiff, Int.reduceToNat, Int.reduceLT, Int.reduceLE, Int.reduceEq, reduceCtorEq, ↓reduceIte, X39_1, k39_1, b1]
theorem call39 (args : List AV) (S : St) : evCall T (evFL T) 39 args S = lendC (evFL T 39) S (lendAll S [[0], [0], [0]] args) := evCall0 fn39 rfl rfl args S
theorem callz39 (args : List AV) (S : St) : evCallFz T (evFL T) 39 args S = lendZ (evFL T 39) S [[0]] (lendAll S [[0], [0], [0]] args) := evCallFz0 fn39 rfl rfl args S
attribute [go_sem] call39 callz39
theorem e39 (a0 : Int) (a1 : Int) (a2 : Int) (r : Bool) (h : m39 a0 a1 a2 = some r) : evFL T 39 [.int .i64 a0, .int .i64 a1, .int .i64 a2] [] = some (.bool r, []) := by
  unfold m39 at h
  rw [evFL_at fn39 (Nat.le_of_ble_eq_true rfl) rfl (.inr rfl)]
  obtain ⟨v4, q2, h⟩ := bnd_some h
  have w3 := e39_1 a0 a1 a2 v4 q2
  simp only [X39_1] at w3
  try simp -implicitDefEqProofs only [go_sem, Nat.reduceLT, Nat.reduceAdd, Nat.reduceSub, Nat.reduceMul, Nat.reduceEqDiff, Nat.reduceBEq, Nat.reduceLeDiff, Int.reduceToNat, Int.reduceLT, Int.reduceLE, Int.reduceEq, reduceCtorEq, ↓reduceIte] at w3
  cases h
  simp -implicitDefEqProofs only [go_sem, Nat.reduceLT, Nat.reduceAdd, Nat.reduceSub, Nat.reduceMul, Nat.reduceEqDiff, Nat.reduceBEq, Nat.reduceLeDiff, Int.reduceToNat, Int.reduceLT, Int.reduceLE, Int.reduceEq, reduceCtorEq, ↓reduceIte, i39, c39, w3]
-- f11 spec.NewSession
theorem call11 (args : List AV) (S : St) : evCall T (evFL T) 11 args S = lendC (evFL T 11) S (lendAll S [[0]] args) := evCall0 fn11 rfl rfl args S
theorem callz11 (args : List AV) (S : St) : evCallFz T (evFL T) 11 args S = lendZ (evFL T 11) S [[0, 0, 0, 0, 0], [0]] (lendAll S [[0]] args) := evCallFz0 fn11 rfl rfl args S
attribute [go_sem] call11 callz11
theorem e11 (a0 : Int) (r : (Session × Bool)) (h : m11 a0 = some r) : evFL T 11 [.int .i64 a0] [] = some (.tup [.agg [.int .i64 r.1.state, .int .i64 r.1.hold, .int .i64 r.1.left, .int .i64 r.1.quiet, .int .i64 r.1.ups], .bool r.2], []) := by
  unfold m11 at h
  rw [evFL_at fn11 (Nat.le_of_ble_eq_true rfl) rfl (.inr rfl)]
  obtain ⟨r3, q1, h⟩ := bnd_some h
  have w2 := e39 a0 3 90 r3 q1
  try simp -implicitDefEqProofs only [go_sem, Nat.reduceLT, Nat.reduceAdd, Nat.reduceSub, Nat.reduceMul, Nat.reduceEqDiff, Nat.reduceBEq, Nat.reduceLeDiff, Int.reduceToNat, Int.reduceLT, Int.reduceLE, Int.reduceEq, reduceCtorEq, ↓reduceIte] at w2
  try simp -implicitDefEqProofs only [go_sem, Nat.reduceLT, Nat.reduceAdd, Nat.reduceSub, Nat.reduceMul, Nat.reduceEqDiff, Nat.reduceBEq, Nat.reduceLeDiff, Int.reduceToNat, Int.reduceLT, Int.reduceLE, Int.reduceEq, reduceCtorEq, ↓reduceIte, i11, c11, w2]
  cases b4 : (r3 : Bool)
  · replace h := br_f b4 h
    cases h
    simp -implicitDefEqProofs only [go_sem, Nat.reduceLT, Nat.reduceAdd, Nat.reduceSub, Nat.reduceMul, Nat.reduceEqDiff, Nat.reduceBEq, Nat.reduceLeDiff, Int.reduceToNat, Int.reduceLT, Int.reduceLE, Int.reduceEq, reduceCtorEq, ↓reduceIte, i11, c11, w2, b4]
  · replace h := br_t b4 h
    cases h
    simp -implicitDefEqProofs only [go_sem, Nat.reduceLT, Nat.reduceAdd, Nat.reduceSub, Nat.reduceMul, Nat.reduceEqDiff, Nat.reduceBEq, Nat.reduceLeDiff, Int.reduceToNat, Int.reduceLT, Int.reduceLE, Int.reduceEq, reduceCtorEq, ↓reduceIte, i11, c11, w2, b4]
-- f41 spec.l12Event
def X41_1 (a0 : Evt) (o : Bool) : Ex × Fr × St :=
  (.normal, frOf 17 (upd anyF 2 (.bool o)), [])
theorem e41_1 (a0 : Evt) (o : Bool) (h : m41_1 a0 = some o) : evCL T 0 k41_1 (frOf 17 (upd anyF 1 (.ptr 0 0 0))) [some ⟨.box, 2, [[.int .i64 a0.kind, .int .i64 a0.n]]⟩] = some (X41_1 a0 o) := by
  unfold m41_1 at h
  obtain ⟨r7, q5, h⟩ := bnd_some h
  have w6 := e39 a0.kind 1 10 r7 q5
  try simp -implicitDefEqProofs only [go_sem, Nat.reduceLT, Nat.reduceAdd, Nat.reduceSub, Nat.reduceMul, Nat.reduceEqDiff, Nat.reduceBEq, Nat.reduceLeDiff, Int.reduceToNat, Int.reduceLT, Int.reduceLE, Int.reduceEq, reduceCtorEq, ↓reduceIte] at w6
  try simp -implicitDefEqProofs only [go_sem, Nat.reduceLT, Nat.reduceAdd, Nat.reduceSub, Nat.reduceMul, Nat.reduceEqDiff, Nat.reduceBEq, Nat.reduceLeDiff, Int.reduceToNat, Int.reduceLT, Int.reduceLE, Int.reduceEq, reduceCtorEq, ↓reduceIte, X41_1, k41_1, w6]
  cases b8 : (r7 : Bool)
  · replace h := br_f b8 h
    cases h
    simp -implicitDefEqProofs only [go_sem, Nat.reduceLT, Nat.reduceAdd, Nat.reduceSub, Nat.reduceMul, Nat.reduceEqDiff, Nat.reduceBEq, Nat.reduceLeDiff, Int.reduceToNat, Int.reduceLT, Int.reduceLE, Int.reduceEq, reduceCtorEq, ↓reduceIte, X41_1, k41_1, w6, b8]
  · replace h := br_t b8 h
    cases h
    simp -implicitDefEqProofs only [go_sem, Nat.reduceLT, Nat.reduceAdd, Nat.reduceSub, Nat.reduceMul, Nat.reduceEqDiff, Nat.reduceBEq, Nat.reduceLeDiff, Int.reduceToNat, Int.reduceLT, Int.reduceLE, Int.reduceEq, reduceCtorEq, ↓reduceIte, X41_1, k41_1, w6, b8]
theorem call41 (args : List AV) (S : St) : evCall T (evFL T) 41 args S = lendC (evFL T 41) S (lendAll S [[0, 0]] args) := evCall0 fn41 rfl rfl args S
theorem callz41 (args : List AV) (S : St) : evCallFz T (evFL T) 41 args S = lendZ (evFL T 41) S [[0]] (lendAll S [[0, 0]] args) := evCallFz0 fn41 rfl rfl args S
attribute [go_sem] call41 callz41
theorem e41 (a0 : Evt) (r : Bool) (h : m41 a0 = some r) : evFL T 41 [.agg [.int .i64 a0.kind, .int .i64 a0.n]] [] = some (.bool r, []) := by
  unfold m41 at h
  rw [evFL_at fn41 (Nat.le_of_ble_eq_true rfl) rfl (.inr rfl)]
  try simp -implicitDefEqProofs only [go_sem, Nat.reduceLT, Nat.reduceAdd, Nat.reduceSub, Nat.reduceMul, Nat.reduceEqDiff, Nat.reduceBEq, Nat.reduceLeDiff, Int.reduceToNat, Int.reduceLT, Int.reduceLE, Int.reduceEq, reduceCtorEq, ↓reduceIte, i41, c41]
  cases b1 : (eqI a0.kind 5 : Bool)
  · replace h := br_f b1 h
    obtain ⟨v11, q9, h⟩ := bnd_some h
    have w10 := e41_1 a0 v11 q9
    simp only [X41_1] at w10
    try simp -implicitDefEqProofs only [go_sem, Nat.reduceLT, Nat.reduceAdd, Nat.reduceSub, Nat.reduceMul, Nat.reduceEqDiff, Nat.reduceBEq, Nat.reduceLeDiff, Int.reduceToNat, Int.reduceLT, Int.reduceLE, Int.reduceEq, reduceCtorEq, ↓reduceIte] at w10
    cases h
    simp -implicitDefEqProofs only [go_sem, Nat.reduceLT, Nat.reduceAdd, Nat.reduceSub, Nat.reduceMul, Nat.reduceEqDiff, Nat.reduceBEq, Nat.reduceLeDiff, Int.reduceToNat, Int.reduceLT, Int.reduceLE, Int.reduceEq, reduceCtorEq, ↓reduceIte, i41, c41, b1, w10]
  · replace h := br_t b1 h
    obtain ⟨r4, q2, h⟩ := bnd_some h
    have w3 := e39 a0.n 0 100 r4 q2
    try simp -implicitDefEqProofs only [go_sem, Nat.reduceLT, Nat.reduceAdd, Nat.reduceSub, Nat.reduceMul, Nat.reduceEqDiff, Nat.reduceBEq, Nat.reduceLeDiff, Int.reduceToNat, Int.reduceLT, Int.reduceLE, Int.reduceEq, reduceCtorEq, ↓reduceIte] at w3
    cases h
    simp -implicitDefEqProofs only [go_sem, Nat.reduceLT, Nat.reduceAdd, Nat.reduceSub, Nat.reduceMul, Nat.reduceEqDiff, Nat.reduceBEq, Nat.reduceLeDiff, Int.reduceToNat, Int.reduceLT, Int.reduceLE, Int.reduceEq, reduceCtorEq, ↓reduceIte, i41, c41, b1, w3]
-- f60 spec.l12To
theorem call60 (args : List AV) (S : St) : evCall T (evFL T) 60 args S = lendC (evFL T 60) S (lendAll S [[0, 0, 0, 0, 0], [0]] args) := evCall0 fn60 rfl rfl args S
theorem callz60 (args : List AV) (S : St) : evCallFz T (evFL T) 60 args S = lendZ (evFL T 60) S [[0, 0, 0, 0, 0]] (lendAll S [[0, 0, 0, 0, 0], [0]] args) := evCallFz0 fn60 rfl rfl args S
attribute [go_sem] call60 callz60
theorem e60 (a0 : Session) (a1 : Int) (r : Session) (h : m60 a0 a1 = some r) : evFL T 60 [.agg [.int .i64 a0.state, .int .i64 a0.hold, .int .i64 a0.left, .int .i64 a0.quiet, .int .i64 a0.ups], .int .i64 a1] [] = some (.agg [.int .i64 r.state, .int .i64 r.hold, .int .i64 r.left, .int .i64 r.quiet, .int .i64 r.ups], []) := by
  unfold m60 at h
  rw [evFL_at fn60 (Nat.le_of_ble_eq_true rfl) rfl (.inr rfl)]
  cases h
  simp -implicitDefEqProofs only [go_sem, Nat.reduceLT, Nat.reduceAdd, Nat.reduceSub, Nat.reduceMul, Nat.reduceEqDiff, Nat.reduceBEq, Nat.reduceLeDiff, Int.reduceToNat, Int.reduceLT, Int.reduceLE, Int.reduceEq, reduceCtorEq, ↓reduceIte, i60, c60]
-- f49 spec.l12Tick
theorem call49 (args : List AV) (S : St) : evCall T (evFL T) 49 args S = lendC (evFL T 49) S (lendAll S [[0, 0, 0, 0, 0]] args) := evCall0 fn49 rfl rfl args S
theorem callz49 (args : List AV) (S : St) : evCallFz T (evFL T) 49 args S = lendZ (evFL T 49) S [[0, 0, 0, 0, 0], [1]] (lendAll S [[0, 0, 0, 0, 0]] args) := evCallFz0 fn49 rfl rfl args S
attribute [go_sem] call49 callz49
theorem e49 (a0 : Session) (r : (Session × (List Int))) (h : m49 a0 = some r) : evFL T 49 [.agg [.int .i64 a0.state, .int .i64 a0.hold, .int .i64 a0.left, .int .i64 a0.quiet, .int .i64 a0.ups]] [] = some (.tup [.agg [.int .i64 r.1.state, .int .i64 r.1.hold, .int .i64 r.1.left, .int .i64 r.1.quiet, .int .i64 r.1.ups], .sl 0 0 r.2.length], [some ⟨.arr, 1, r.2.map encInt⟩]) := by
  unfold m49 at h
  rw [evFL_at fn49 (Nat.le_of_ble_eq_true rfl) rfl (.inr rfl)]
  try simp -implicitDefEqProofs only [go_sem, Nat.reduceLT, Nat.reduceAdd, Nat.reduceSub, Nat.reduceMul, Nat.reduceEqDiff, Nat.reduceBEq, Nat.reduceLeDiff, Int.reduceToNat, Int.reduceLT, Int.reduceLE, Int.reduceEq, reduceCtorEq, ↓reduceIte, i49, c49]
  cases b1 : (ltI a0.state 2 : Bool)
  · replace h := br_f b1 h
    try simp -implicitDefEqProofs only [go_sem, Nat.reduceLT, Nat.reduceAdd, Nat.reduceSub, Nat.reduceMul, Nat.reduceEqDiff, Nat.reduceBEq, Nat.reduceLeDiff, Int.reduceToNat, Int.reduceLT, Int.reduceLE, Int.reduceEq, reduceCtorEq, ↓reduceIte, i49, c49, b1]
    cases b2 : (eqI (wsub .i64 a0.left 1) 0 : Bool)
    · replace h := br_f b2 h
      try simp -implicitDefEqProofs only [go_sem, Nat.reduceLT, Nat.reduceAdd, Nat.reduceSub, Nat.reduceMul, Nat.reduceEqDiff, Nat.reduceBEq, Nat.reduceLeDiff, Int.reduceToNat, Int.reduceLT, Int.reduceLE, Int.reduceEq, reduceCtorEq, ↓reduceIte, i49, c49, b1, b2]
      cases b6 : (eqI a0.state 2 : Bool)
      · replace h := br_f b6 h
        try simp -implicitDefEqProofs only [go_sem, Nat.reduceLT, Nat.reduceAdd, Nat.reduceSub, Nat.reduceMul, Nat.reduceEqDiff, Nat.reduceBEq, Nat.reduceLeDiff, Int.reduceToNat, Int.reduceLT, Int.reduceLE, Int.reduceEq, reduceCtorEq, ↓reduceIte, i49, c49, b1, b2, b6]
        cases b7 : (eqI (wsub .i64 a0.quiet 1) 0 : Bool)
        · replace h := br_f b7 h
          cases h
          simp -implicitDefEqProofs only [go_sem, Nat.reduceLT, Nat.reduceAdd, Nat.reduceSub, Nat.reduceMul, Nat.reduceEqDiff, Nat.reduceBEq, Nat.reduceLeDiff, Int.reduceToNat, Int.reduceLT, Int.reduceLE, Int.reduceEq, reduceCtorEq, ↓reduceIte, i49, c49, b1, b2, b6, b7]
        · replace h := br_t b7 h
          cases h
          simp -implicitDefEqProofs only [go_sem, Nat.reduceLT, Nat.reduceAdd, Nat.reduceSub, Nat.reduceMul, Nat.reduceEqDiff, Nat.reduceBEq, Nat.reduceLeDiff, Int.reduceToNat, Int.reduceLT, Int.reduceLE, Int.reduceEq, reduceCtorEq, ↓reduceIte, i49, c49, b1, b2, b6, b7]
      · replace h := br_t b6 h
        cases h
        simp -implicitDefEqProofs only [go_sem, Nat.reduceLT, Nat.reduceAdd, Nat.reduceSub, Nat.reduceMul, Nat.reduceEqDiff, Nat.reduceBEq, Nat.reduceLeDiff, Int.reduceToNat, Int.reduceLT, Int.reduceLE, Int.reduceEq, reduceCtorEq, ↓reduceIte, i49, c49, b1, b2, b6]
    · replace h := br_t b2 h
      obtain ⟨r5, q3, h⟩ := bnd_some h
      have w4 := e60 (⟨a0.state, a0.hold, wsub .i64 a0.left 1, a0.quiet, a0.ups⟩ : Session) 0 r5 q3
      try simp -implicitDefEqProofs only [go_sem, Nat.reduceLT, Nat.reduceAdd, Nat.reduceSub, Nat.reduceMul, Nat.reduceEqDiff, Nat.reduceBEq, Nat.reduceLeDiff, Int.reduceToNat, Int.reduceLT, Int.reduceLE, Int.reduceEq, reduceCtorEq, ↓reduceIte] at w4
      cases h
      simp -implicitDefEqProofs only [go_sem, Nat.reduceLT, Nat.reduceAdd, Nat.reduceSub, Nat.reduceMul, Nat.reduceEqDiff, Nat.reduceBEq, Nat.reduceLeDiff, Int.reduceToNat, Int.reduceLT, Int.reduceLE, Int.reduceEq, reduceCtorEq, ↓reduceIte, i49, c49, b1, b2, w4]
  · replace h := br_t b1 h
    cases h
    simp -implicitDefEqProofs only [go_sem, Nat.reduceLT, Nat.reduceAdd, Nat.reduceSub, Nat.reduceMul, Nat.reduceEqDiff, Nat.reduceBEq, Nat.reduceLeDiff, Int.reduceToNat, Int.reduceLT, Int.reduceLE, Int.reduceEq, reduceCtorEq, ↓reduceIte, i49, c49, b1]
-- f42 spec.l12Step
def X42_1 (p6 : Bool) (a0 : Session) (a1 : Evt) (p7 : Session) (o : Bool) : Ex × Fr × St :=
  (.normal, frOf 144 (upd (upd (upd (upd (upd anyF 2 (.ptr 0 0 0)) 3 (.ptr 1 0 0)) 4 (.ptr 2 0 0)) 6 (.bool p6)) 18 (.bool o)), [some ⟨.box, 5, [[.int .i64 a0.state, .int .i64 a0.hold, .int .i64 a0.left, .int .i64 a0.quiet, .int .i64 a0.ups]]⟩, some ⟨.box, 2, [[.int .i64 a1.kind, .int .i64 a1.n]]⟩, some ⟨.box, 5, [[.int .i64 p7.state, .int .i64 p7.hold, .int .i64 p7.left, .int .i64 p7.quiet, .int .i64 p7.ups]]⟩])
theorem e42_1 (p6 : Bool) (a0 : Session) (a1 : Evt) (p7 : Session) (o : Bool) (h : m42_1 a0 a1 = some o) : evCL T 0 k42_1 (frOf 144 (upd (upd (upd (upd anyF 2 (.ptr 0 0 0)) 3 (.ptr 1 0 0)) 4 (.ptr 2 0 0)) 6 (.bool p6))) [some ⟨.box, 5, [[.int .i64 a0.state, .int .i64 a0.hold, .int .i64 a0.left, .int .i64 a0.quiet, .int .i64 a0.ups]]⟩, some ⟨.box, 2, [[.int .i64 a1.kind, .int .i64 a1.n]]⟩, some ⟨.box, 5, [[.int .i64 p7.state, .int .i64 p7.hold, .int .i64 p7.left, .int .i64 p7.quiet, .int .i64 p7.ups]]⟩] = some (X42_1 p6 a0 a1 p7 o) := by
  unfold m42_1 at h
  try simp -implicitDefEqProofs only [go_sem, Nat.reduceLT, Nat.reduceAdd, Nat.reduceSub, Nat.reduceMul, Nat.reduceEqDiff, Nat.reduceBEq, Nat.reduceLeDiff, Int.reduceToNat, Int.reduceLT, Int.reduceLE, Int.reduceEq, reduceCtorEq, ↓reduceIte, X42_1, k42_1]
  cases b8 : (eqI a1.kind 1 : Bool)
  · replace h := br_f b8 h
    cases h
    simp -implicitDefEqProofs only [go_sem, Nat.reduceLT, Nat.reduceAdd, Nat.reduceSub, Nat.reduceMul, Nat.reduceEqDiff, Nat.reduceBEq, Nat.reduceLeDiff, Int.reduceToNat, Int.reduceLT, Int.reduceLE, Int.reduceEq, reduceCtorEq, ↓reduceIte, X42_1, k42_1, b8]
  · replace h := br_t b8 h
    cases h
    simp -implicitDefEqProofs only [go_sem, Nat.reduceLT, Nat.reduceAdd, Nat.reduceSub, Nat.reduceMul, Nat.reduceEqDiff, Nat.reduceBEq, Nat.reduceLeDiff, Int.reduceToNat, Int.reduceLT, Int.reduceLE, Int.reduceEq, reduceCtorEq, ↓reduceIte, X42_1, k42_1, b8]
def X42_2 (p16 : Bool) (a0 : Session) (a1 : Evt) (p17 : Session) (o : Bool) : Ex × Fr × St :=
  (.normal, frOf 144 (upd (upd (upd (upd (upd anyF 2 (.ptr 0 0 0)) 3 (.ptr 1 0 0)) 4 (.ptr 2 0 0)) 6 (.bool p16)) 29 (.bool o)), [some ⟨.box, 5, [[.int .i64 a0.state, .int .i64 a0.hold, .int .i64 a0.left, .int .i64 a0.quiet, .int .i64 a0.ups]]⟩, some ⟨.box, 2, [[.int .i64 a1.kind, .int .i64 a1.n]]⟩, some ⟨.box, 5, [[.int .i64 p17.state, .int .i64 p17.hold, .int .i64 p17.left, .int .i64 p17.quiet, .int .i64 p17.ups]]⟩])
theorem e42_2 (p16 : Bool) (a0 : Session) (a1 : Evt) (p17 : Session) (o : Bool) (h : m42_2 a0 a1 = some o) : evCL T 0 k42_2 (frOf 144 (upd (upd (upd (upd anyF 2 (.ptr 0 0 0)) 3 (.ptr 1 0 0)) 4 (.ptr 2 0 0)) 6 (.bool p16))) [some ⟨.box, 5, [[.int .i64 a0.state, .int .i64 a0.hold, .int .i64 a0.left, .int .i64 a0.quiet, .int .i64 a0.ups]]⟩, some ⟨.box, 2, [[.int .i64 a1.kind, .int .i64 a1.n]]⟩, some ⟨.box, 5, [[.int .i64 p17.state, .int .i64 p17.hold, .int .i64 p17.left, .int .i64 p17.quiet, .int .i64 p17.ups]]⟩] = some (X42_2 p16 a0 a1 p17 o) := by
  unfold m42_2 at h
  try simp -implicitDefEqProofs only [go_sem, Nat.reduceLT, Nat.reduceAdd, Nat.reduceSub, Nat.reduceMul, Nat.reduceEqDiff, Nat.reduceBEq, Nat.reduceLeDiff, Int.reduceToNat, Int.reduceLT, Int.reduceLE, Int.reduceEq, reduceCtorEq, ↓reduceIte, X42_2, k42_2]
  cases b18 : (eqI a1.kind 3 : Bool)
  · replace h := br_f b18 h
    cases h
    simp -implicitDefEqProofs only [go_sem, Nat.reduceLT, Nat.reduceAdd, Nat.reduceSub, Nat.reduceMul, Nat.reduceEqDiff, Nat.reduceBEq, Nat.reduceLeDiff, Int.reduceToNat, Int.reduceLT, Int.reduceLE, Int.reduceEq, reduceCtorEq, ↓reduceIte, X42_2, k42_2, b18]
  · replace h := br_t b18 h
    cases h
    simp -implicitDefEqProofs only [go_sem, Nat.reduceLT, Nat.reduceAdd, Nat.reduceSub, Nat.reduceMul, Nat.reduceEqDiff, Nat.reduceBEq, Nat.reduceLeDiff, Int.reduceToNat, Int.reduceLT, Int.reduceLE, Int.reduceEq, reduceCtorEq, ↓reduceIte, X42_2, k42_2, b18]
def X42_3 (p26 : Bool) (a0 : Session) (a1 : Evt) (p27 : Session) (o : Bool) : Ex × Fr × St :=
  (.normal, frOf 144 (upd (upd (upd (upd (upd anyF 2 (.ptr 0 0 0)) 3 (.ptr 1 0 0)) 4 (.ptr 2 0 0)) 6 (.bool p26)) 43 (.bool o)), [some ⟨.box, 5, [[.int .i64 a0.state, .int .i64 a0.hold, .int .i64 a0.left, .int .i64 a0.quiet, .int .i64 a0.ups]]⟩, some ⟨.box, 2, [[.int .i64 a1.kind, .int .i64 a1.n]]⟩, some ⟨.box, 5, [[.int .i64 p27.state, .int .i64 p27.hold, .int .i64 p27.left, .int .i64 p27.quiet, .int .i64 p27.ups]]⟩])
theorem e42_3 (p26 : Bool) (a0 : Session) (a1 : Evt) (p27 : Session) (o : Bool) (h : m42_3 p26 a1 = some o) : evCL T 0 k42_3 (frOf 144 (upd (upd (upd (upd anyF 2 (.ptr 0 0 0)) 3 (.ptr 1 0 0)) 4 (.ptr 2 0 0)) 6 (.bool p26))) [some ⟨.box, 5, [[.int .i64 a0.state, .int .i64 a0.hold, .int .i64 a0.left, .int .i64 a0.quiet, .int .i64 a0.ups]]⟩, some ⟨.box, 2, [[.int .i64 a1.kind, .int .i64 a1.n]]⟩, some ⟨.box, 5, [[.int .i64 p27.state, .int .i64 p27.hold, .int .i64 p27.left, .int .i64 p27.quiet, .int .i64 p27.ups]]⟩] = some (X42_3 p26 a0 a1 p27 o) := by
  unfold m42_3 at h
  try simp -implicitDefEqProofs only [go_sem, Nat.reduceLT, Nat.reduceAdd, Nat.reduceSub, Nat.reduceMul, Nat.reduceEqDiff, Nat.reduceBEq, Nat.reduceLeDiff, Int.reduceToNat, Int.reduceLT, Int.reduceLE, Int.reduceEq, reduceCtorEq, ↓reduceIte, X42_3, k42_3]
  cases b28 : (eqI a1.kind 4 : Bool)
  · replace h := br_f b28 h
    cases h
    simp -implicitDefEqProofs only [go_sem, Nat.reduceLT, Nat.reduceAdd, Nat.reduceSub, Nat.reduceMul, Nat.reduceEqDiff, Nat.reduceBEq, Nat.reduceLeDiff, Int.reduceToNat, Int.reduceLT, Int.reduceLE, Int.reduceEq, reduceCtorEq, ↓reduceIte, X42_3, k42_3, b28]
  · replace h := br_t b28 h
    cases h
    simp -implicitDefEqProofs only [go_sem, Nat.reduceLT, Nat.reduceAdd, Nat.reduceSub, Nat.reduceMul, Nat.reduceEqDiff, Nat.reduceBEq, Nat.reduceLeDiff, Int.reduceToNat, Int.reduceLT, Int.reduceLE, Int.reduceEq, reduceCtorEq, ↓reduceIte, X42_3, k42_3, b28]
def X42_4 (p36 : Bool) (a0 : Session) (a1 : Evt) (p37 : Session) (o : Bool) : Ex × Fr × St :=
  (.normal, frOf 144 (upd (upd (upd (upd (upd anyF 2 (.ptr 0 0 0)) 3 (.ptr 1 0 0)) 4 (.ptr 2 0 0)) 6 (.bool p36)) 52 (.bool o)), [some ⟨.box, 5, [[.int .i64 a0.state, .int .i64 a0.hold, .int .i64 a0.left, .int .i64 a0.quiet, .int .i64 a0.ups]]⟩, some ⟨.box, 2, [[.int .i64 a1.kind, .int .i64 a1.n]]⟩, some ⟨.box, 5, [[.int .i64 p37.state, .int .i64 p37.hold, .int .i64 p37.left, .int .i64 p37.quiet, .int .i64 p37.ups]]⟩])
theorem e42_4 (p36 : Bool) (a0 : Session) (a1 : Evt) (p37 : Session) (o : Bool) (h : m42_4 p36 a1 = some o) : evCL T 0 k42_4 (frOf 144 (upd (upd (upd (upd anyF 2 (.ptr 0 0 0)) 3 (.ptr 1 0 0)) 4 (.ptr 2 0 0)) 6 (.bool p36))) [some ⟨.box, 5, [[.int .i64 a0.state, .int .i64 a0.hold, .int .i64 a0.left, .int .i64 a0.quiet, .int .i64 a0.ups]]⟩, some ⟨.box, 2, [[.int .i64 a1.kind, .int .i64 a1.n]]⟩, some ⟨.box, 5, [[.int .i64 p37.state, .int .i64 p37.hold, .int .i64 p37.left, .int .i64 p37.quiet, .int .i64 p37.ups]]⟩] = some (X42_4 p36 a0 a1 p37 o) := by
  unfold m42_4 at h
  try simp -implicitDefEqProofs only [go_sem, Nat.reduceLT, Nat.reduceAdd, Nat.reduceSub, Nat.reduceMul, Nat.reduceEqDiff, Nat.reduceBEq, Nat.reduceLeDiff, Int.reduceToNat, Int.reduceLT, Int.reduceLE, Int.reduceEq, reduceCtorEq, ↓reduceIte, X42_4, k42_4]
  cases b38 : (eqI a1.kind 9 : Bool)
  · replace h := br_f b38 h
    cases h
    simp -implicitDefEqProofs only [go_sem, Nat.reduceLT, Nat.reduceAdd, Nat.reduceSub, Nat.reduceMul, Nat.reduceEqDiff, Nat.reduceBEq, Nat.reduceLeDiff, Int.reduceToNat, Int.reduceLT, Int.reduceLE, Int.reduceEq, reduceCtorEq, ↓reduceIte, X42_4, k42_4, b38]
  · replace h := br_t b38 h
    cases h
    simp -implicitDefEqProofs only [go_sem, Nat.reduceLT, Nat.reduceAdd, Nat.reduceSub, Nat.reduceMul, Nat.reduceEqDiff, Nat.reduceBEq, Nat.reduceLeDiff, Int.reduceToNat, Int.reduceLT, Int.reduceLE, Int.reduceEq, reduceCtorEq, ↓reduceIte, X42_4, k42_4, b38]
def X42_5 (p46 : Bool) (a0 : Session) (a1 : Evt) (p47 : Session) (o : Bool) : Ex × Fr × St :=
  (.normal, frOf 144 (upd (upd (upd (upd (upd anyF 2 (.ptr 0 0 0)) 3 (.ptr 1 0 0)) 4 (.ptr 2 0 0)) 6 (.bool p46)) 61 (.bool o)), [some ⟨.box, 5, [[.int .i64 a0.state, .int .i64 a0.hold, .int .i64 a0.left, .int .i64 a0.quiet, .int .i64 a0.ups]]⟩, some ⟨.box, 2, [[.int .i64 a1.kind, .int .i64 a1.n]]⟩, some ⟨.box, 5, [[.int .i64 p47.state, .int .i64 p47.hold, .int .i64 p47.left, .int .i64 p47.quiet, .int .i64 p47.ups]]⟩])
theorem e42_5 (p46 : Bool) (a0 : Session) (a1 : Evt) (p47 : Session) (o : Bool) (h : m42_5 p46 a1 = some o) : evCL T 0 k42_5 (frOf 144 (upd (upd (upd (upd anyF 2 (.ptr 0 0 0)) 3 (.ptr 1 0 0)) 4 (.ptr 2 0 0)) 6 (.bool p46))) [some ⟨.box, 5, [[.int .i64 a0.state, .int .i64 a0.hold, .int .i64 a0.left, .int .i64 a0.quiet, .int .i64 a0.ups]]⟩, some ⟨.box, 2, [[.int .i64 a1.kind, .int .i64 a1.n]]⟩, some ⟨.box, 5, [[.int .i64 p47.state, .int .i64 p47.hold, .int .i64 p47.left, .int .i64 p47.quiet, .int .i64 p47.ups]]⟩] = some (X42_5 p46 a0 a1 p47 o) := by
  unfold m42_5 at h
  try simp -implicitDefEqProofs only [go_sem, Nat.reduceLT, Nat.reduceAdd, Nat.reduceSub, Nat.reduceMul, Nat.reduceEqDiff, Nat.reduceBEq, Nat.reduceLeDiff, Int.reduceToNat, Int.reduceLT, Int.reduceLE, Int.reduceEq, reduceCtorEq, ↓reduceIte, X42_5, k42_5]
  cases b48 : (eqI a1.kind 2 : Bool)
  · replace h := br_f b48 h
    cases h
    simp -implicitDefEqProofs only [go_sem, Nat.reduceLT, Nat.reduceAdd, Nat.reduceSub, Nat.reduceMul, Nat.reduceEqDiff, Nat.reduceBEq, Nat.reduceLeDiff, Int.reduceToNat, Int.reduceLT, Int.reduceLE, Int.reduceEq, reduceCtorEq, ↓reduceIte, X42_5, k42_5, b48]
  · replace h := br_t b48 h
    cases h
    simp -implicitDefEqProofs only [go_sem, Nat.reduceLT, Nat.reduceAdd, Nat.reduceSub, Nat.reduceMul, Nat.reduceEqDiff, Nat.reduceBEq, Nat.reduceLeDiff, Int.reduceToNat, Int.reduceLT, Int.reduceLE, Int.reduceEq, reduceCtorEq, ↓reduceIte, X42_5, k42_5, b48]
def X42_6 (a0 : Session) (a1 : Evt) (p57 : Session) (o : Bool) : Ex × Fr × St :=
  (.normal, frOf 144 (upd (upd (upd (upd anyF 2 (.ptr 0 0 0)) 3 (.ptr 1 0 0)) 4 (.ptr 2 0 0)) 75 (.bool o)), [some ⟨.box, 5, [[.int .i64 a0.state, .int .i64 a0.hold, .int .i64 a0.left, .int .i64 a0.quiet, .int .i64 a0.ups]]⟩, some ⟨.box, 2, [[.int .i64 a1.kind, .int .i64 a1.n]]⟩, some ⟨.box, 5, [[.int .i64 p57.state, .int .i64 p57.hold, .int .i64 p57.left, .int .i64 p57.quiet, .int .i64 p57.ups]]⟩])
theorem e42_6 (a0 : Session) (a1 : Evt) (p57 : Session) (o : Bool) (h : m42_6 a0 a1 = some o) : evCL T 0 k42_6 (frOf 144 (upd (upd (upd anyF 2 (.ptr 0 0 0)) 3 (.ptr 1 0 0)) 4 (.ptr 2 0 0))) [some ⟨.box, 5, [[.int .i64 a0.state, .int .i64 a0.hold, .int .i64 a0.left, .int .i64 a0.quiet, .int .i64 a0.ups]]⟩, some ⟨.box, 2, [[.int .i64 a1.kind, .int .i64 a1.n]]⟩, some ⟨.box, 5, [[.int .i64 p57.state, .int .i64 p57.hold, .int .i64 p57.left, .int .i64 p57.quiet, .int .i64 p57.ups]]⟩] = some (X42_6 a0 a1 p57 o) := by
  unfold m42_6 at h
  try simp -implicitDefEqProofs only [go_sem, Nat.reduceLT, Nat.reduceAdd, Nat.reduceSub, Nat.reduceMul, Nat.reduceEqDiff, Nat.reduceBEq, Nat.reduceLeDiff, Int.reduceToNat, Int.reduceLT, Int.reduceLE, Int.reduceEq, reduceCtorEq, ↓reduceIte, X42_6, k42_6]
  cases b58 : (eqI a1.kind 5 : Bool)
  · replace h := br_f b58 h
    cases h
    simp -implicitDefEqProofs only [go_sem, Nat.reduceLT, Nat.reduceAdd, Nat.reduceSub, Nat.reduceMul, Nat.reduceEqDiff, Nat.reduceBEq, Nat.reduceLeDiff, Int.reduceToNat, Int.reduceLT, Int.reduceLE, Int.reduceEq, reduceCtorEq, ↓reduceIte, X42_6, k42_6, b58]
  · replace h := br_t b58 h
    try simp -implicitDefEqProofs only [go_sem, Nat.reduceLT, Nat.reduceAdd, Nat.reduceSub, Nat.reduceMul, Nat.reduceEqDiff, Nat.reduceBEq, Nat.reduceLeDiff, Int.reduceToNat, Int.reduceLT, Int.reduceLE, Int.reduceEq, reduceCtorEq, ↓reduceIte, X42_6, k42_6, b58]
    cases b59 : (eqI a0.state 2 : Bool)
    · replace h := br_f b59 h
      cases h
      simp -implicitDefEqProofs only [go_sem, Nat.reduceLT, Nat.reduceAdd, Nat.reduceSub, Nat.reduceMul, Nat.reduceEqDiff, Nat.reduceBEq, Nat.reduceLeDiff, Int.reduceToNat, Int.reduceLT, Int.reduceLE, Int.reduceEq, reduceCtorEq, ↓reduceIte, X42_6, k42_6, b58, b59]
    · replace h := br_t b59 h
      cases h
      simp -implicitDefEqProofs only [go_sem, Nat.reduceLT, Nat.reduceAdd, Nat.reduceSub, Nat.reduceMul, Nat.reduceEqDiff, Nat.reduceBEq, Nat.reduceLeDiff, Int.reduceToNat, Int.reduceLT, Int.reduceLE, Int.reduceEq, reduceCtorEq, ↓reduceIte, X42_6, k42_6, b58, b59]
def X42_7 (p64 : Bool) (p65 : Session) (a1 : Evt) (p66 : Session) (o : Session) : Ex × Fr × St :=
  (.normal, frOf 144 (upd (upd anyF 2 (.ptr 0 0 0)) 4 (.ptr 1 0 0)), [some ⟨.box, 5, [[.int .i64 o.state, .int .i64 o.hold, .int .i64 o.left, .int .i64 o.quiet, .int .i64 o.ups]]⟩, some ⟨.box, 5, [[.int .i64 p66.state, .int .i64 p66.hold, .int .i64 p66.left, .int .i64 p66.quiet, .int .i64 p66.ups]]⟩])
theorem e42_7 (p64 : Bool) (p65 : Session) (a1 : Evt) (p66 : Session) (o : Session) (h : m42_7 p64 p65 a1 = some o) : evCL T 0 k42_7 (frOf 144 (upd (upd (upd (upd anyF 2 (.ptr 0 0 0)) 3 (.ptr 1 0 0)) 4 (.ptr 2 0 0)) 94 (.bool p64))) [some ⟨.box, 5, [[.int .i64 p65.state, .int .i64 p65.hold, .int .i64 p65.left, .int .i64 p65.quiet, .int .i64 p65.ups]]⟩, some ⟨.box, 2, [[.int .i64 a1.kind, .int .i64 a1.n]]⟩, some ⟨.box, 5, [[.int .i64 p66.state, .int .i64 p66.hold, .int .i64 p66.left, .int .i64 p66.quiet, .int .i64 p66.ups]]⟩] = some (X42_7 p64 p65 a1 p66 o) := by
  unfold m42_7 at h
  try simp -implicitDefEqProofs only [go_sem, Nat.reduceLT, Nat.reduceAdd, Nat.reduceSub, Nat.reduceMul, Nat.reduceEqDiff, Nat.reduceBEq, Nat.reduceLeDiff, Int.reduceToNat, Int.reduceLT, Int.reduceLE, Int.reduceEq, reduceCtorEq, ↓reduceIte, X42_7, k42_7]
  cases b67 : (p64 : Bool)
  · replace h := br_f b67 h
    cases h
    simp -implicitDefEqProofs only [go_sem, Nat.reduceLT, Nat.reduceAdd, Nat.reduceSub, Nat.reduceMul, Nat.reduceEqDiff, Nat.reduceBEq, Nat.reduceLeDiff, Int.reduceToNat, Int.reduceLT, Int.reduceLE, Int.reduceEq, reduceCtorEq, ↓reduceIte, X42_7, k42_7, b67]
  · replace h := br_t b67 h
    cases h
    simp -implicitDefEqProofs only [go_sem, Nat.reduceLT, Nat.reduceAdd, Nat.reduceSub, Nat.reduceMul, Nat.reduceEqDiff, Nat.reduceBEq, Nat.reduceLeDiff, Int.reduceToNat, Int.reduceLT, Int.reduceLE, Int.reduceEq, reduceCtorEq, ↓reduceIte, X42_7, k42_7, b67]
def X42_8 (a0 : Session) (a1 : Evt) (p71 : Session) (o : Bool) : Ex × Fr × St :=
  (.normal, frOf 144 (upd (upd (upd (upd anyF 2 (.ptr 0 0 0)) 3 (.ptr 1 0 0)) 4 (.ptr 2 0 0)) 107 (.bool o)), [some ⟨.box, 5, [[.int .i64 a0.state, .int .i64 a0.hold, .int .i64 a0.left, .int .i64 a0.quiet, .int .i64 a0.ups]]⟩, some ⟨.box, 2, [[.int .i64 a1.kind, .int .i64 a1.n]]⟩, some ⟨.box, 5, [[.int .i64 p71.state, .int .i64 p71.hold, .int .i64 p71.left, .int .i64 p71.quiet, .int .i64 p71.ups]]⟩])
theorem e42_8 (a0 : Session) (a1 : Evt) (p71 : Session) (o : Bool) (h : m42_8 a0 a1 = some o) : evCL T 0 k42_8 (frOf 144 (upd (upd (upd anyF 2 (.ptr 0 0 0)) 3 (.ptr 1 0 0)) 4 (.ptr 2 0 0))) [some ⟨.box, 5, [[.int .i64 a0.state, .int .i64 a0.hold, .int .i64 a0.left, .int .i64 a0.quiet, .int .i64 a0.ups]]⟩, some ⟨.box, 2, [[.int .i64 a1.kind, .int .i64 a1.n]]⟩, some ⟨.box, 5, [[.int .i64 p71.state, .int .i64 p71.hold, .int .i64 p71.left, .int .i64 p71.quiet, .int .i64 p71.ups]]⟩] = some (X42_8 a0 a1 p71 o) := by
  unfold m42_8 at h
  try simp -implicitDefEqProofs only [go_sem, Nat.reduceLT, Nat.reduceAdd, Nat.reduceSub, Nat.reduceMul, Nat.reduceEqDiff, Nat.reduceBEq, Nat.reduceLeDiff, Int.reduceToNat, Int.reduceLT, Int.reduceLE, Int.reduceEq, reduceCtorEq, ↓reduceIte, X42_8, k42_8]
  cases b72 : (eqI a1.kind 7 : Bool)
  · replace h := br_f b72 h
    cases h
    simp -implicitDefEqProofs only [go_sem, Nat.reduceLT, Nat.reduceAdd, Nat.reduceSub, Nat.reduceMul, Nat.reduceEqDiff, Nat.reduceBEq, Nat.reduceLeDiff, Int.reduceToNat, Int.reduceLT, Int.reduceLE, Int.reduceEq, reduceCtorEq, ↓reduceIte, X42_8, k42_8, b72]
  · replace h := br_t b72 h
    cases h
    simp -implicitDefEqProofs only [go_sem, Nat.reduceLT, Nat.reduceAdd, Nat.reduceSub, Nat.reduceMul, Nat.reduceEqDiff, Nat.reduceBEq, Nat.reduceLeDiff, Int.reduceToNat, Int.reduceLT, Int.reduceLE, Int.reduceEq, reduceCtorEq, ↓reduceIte, X42_8, k42_8, b72]
def X42_10 (a0 : Session) (a1 : Evt) (p76 : Session) (o : Bool) : Ex × Fr × St :=
  (.normal, frOf 144 (upd (upd (upd anyF 2 (.ptr 0 0 0)) 4 (.ptr 1 0 0)) 107 (.bool o)), [some ⟨.box, 5, [[.int .i64 a0.state, .int .i64 a0.hold, .int .i64 a0.left, .int .i64 a0.quiet, .int .i64 a0.ups]]⟩, some ⟨.box, 5, [[.int .i64 p76.state, .int .i64 p76.hold, .int .i64 p76.left, .int .i64 p76.quiet, .int .i64 p76.ups]]⟩])
theorem e42_10 (a0 : Session) (a1 : Evt) (p76 : Session) (o : Bool) (h : m42_10 a0 a1 = some o) : evCL T 0 k42_10 (frOf 144 (upd (upd (upd anyF 2 (.ptr 0 0 0)) 3 (.ptr 1 0 0)) 4 (.ptr 2 0 0))) [some ⟨.box, 5, [[.int .i64 a0.state, .int .i64 a0.hold, .int .i64 a0.left, .int .i64 a0.quiet, .int .i64 a0.ups]]⟩, some ⟨.box, 2, [[.int .i64 a1.kind, .int .i64 a1.n]]⟩, some ⟨.box, 5, [[.int .i64 p76.state, .int .i64 p76.hold, .int .i64 p76.left, .int .i64 p76.quiet, .int .i64 p76.ups]]⟩] = some (X42_10 a0 a1 p76 o) := by
  unfold m42_10 at h
  try simp -implicitDefEqProofs only [go_sem, Nat.reduceLT, Nat.reduceAdd, Nat.reduceSub, Nat.reduceMul, Nat.reduceEqDiff, Nat.reduceBEq, Nat.reduceLeDiff, Int.reduceToNat, Int.reduceLT, Int.reduceLE, Int.reduceEq, reduceCtorEq, ↓reduceIte, X42_10, k42_10]
  cases b78 : (eqI a1.kind 8 : Bool)
  · replace h := br_f b78 h
    cases h
    simp -implicitDefEqProofs only [go_sem, Nat.reduceLT, Nat.reduceAdd, Nat.reduceSub, Nat.reduceMul, Nat.reduceEqDiff, Nat.reduceBEq, Nat.reduceLeDiff, Int.reduceToNat, Int.reduceLT, Int.reduceLE, Int.reduceEq, reduceCtorEq, ↓reduceIte, X42_10, k42_10, b78]
  · replace h := br_t b78 h
    cases h
    simp -implicitDefEqProofs only [go_sem, Nat.reduceLT, Nat.reduceAdd, Nat.reduceSub, Nat.reduceMul, Nat.reduceEqDiff, Nat.reduceBEq, Nat.reduceLeDiff, Int.reduceToNat, Int.reduceLT, Int.reduceLE, Int.reduceEq, reduceCtorEq, ↓reduceIte, X42_10, k42_10, b78]
def X42_9 (v75 : Bool) (a0 : Session) (a1 : Evt) (p76 : Session) (o : Bool) : Ex × Fr × St :=
  (.normal, frOf 144 (upd (upd (upd anyF 2 (.ptr 0 0 0)) 4 (.ptr 1 0 0)) 107 (.bool o)), [some ⟨.box, 5, [[.int .i64 a0.state, .int .i64 a0.hold, .int .i64 a0.left, .int .i64 a0.quiet, .int .i64 a0.ups]]⟩, some ⟨.box, 5, [[.int .i64 p76.state, .int .i64 p76.hold, .int .i64 p76.left, .int .i64 p76.quiet, .int .i64 p76.ups]]⟩])
theorem e42_9 (v75 : Bool) (a0 : Session) (a1 : Evt) (p76 : Session) (o : Bool) (h : m42_9 v75 a0 a1 = some o) : evCL T 0 k42_9 (frOf 144 (upd (upd (upd (upd anyF 2 (.ptr 0 0 0)) 3 (.ptr 1 0 0)) 4 (.ptr 2 0 0)) 107 (.bool v75))) [some ⟨.box, 5, [[.int .i64 a0.state, .int .i64 a0.hold, .int .i64 a0.left, .int .i64 a0.quiet, .int .i64 a0.ups]]⟩, some ⟨.box, 2, [[.int .i64 a1.kind, .int .i64 a1.n]]⟩, some ⟨.box, 5, [[.int .i64 p76.state, .int .i64 p76.hold, .int .i64 p76.left, .int .i64 p76.quiet, .int .i64 p76.ups]]⟩] = some (X42_9 v75 a0 a1 p76 o) := by
  unfold m42_9 at h
  try simp -implicitDefEqProofs only [go_sem, Nat.reduceLT, Nat.reduceAdd, Nat.reduceSub, Nat.reduceMul, Nat.reduceEqDiff, Nat.reduceBEq, Nat.reduceLeDiff, Int.reduceToNat, Int.reduceLT, Int.reduceLE, Int.reduceEq, reduceCtorEq, ↓reduceIte, X42_9, k42_9]
  cases b77 : (v75 : Bool)
  · replace h := br_f b77 h
    obtain ⟨v81, q79, h⟩ := bnd_some h
    have w80 := e42_10 a0 a1 p76 v81 q79
    simp only [X42_10] at w80
    try simp -implicitDefEqProofs only [go_sem, Nat.reduceLT, Nat.reduceAdd, Nat.reduceSub, Nat.reduceMul, Nat.reduceEqDiff, Nat.reduceBEq, Nat.reduceLeDiff, Int.reduceToNat, Int.reduceLT, Int.reduceLE, Int.reduceEq, reduceCtorEq, ↓reduceIte] at w80
    cases h
    simp -implicitDefEqProofs only [go_sem, Nat.reduceLT, Nat.reduceAdd, Nat.reduceSub, Nat.reduceMul, Nat.reduceEqDiff, Nat.reduceBEq, Nat.reduceLeDiff, Int.reduceToNat, Int.reduceLT, Int.reduceLE, Int.reduceEq, reduceCtorEq, ↓reduceIte, X42_9, k42_9, b77, w80]
  · replace h := br_t b77 h
    cases h
    simp -implicitDefEqProofs only [go_sem, Nat.reduceLT, Nat.reduceAdd, Nat.reduceSub, Nat.reduceMul, Nat.reduceEqDiff, Nat.reduceBEq, Nat.reduceLeDiff, Int.reduceToNat, Int.reduceLT, Int.reduceLE, Int.reduceEq, reduceCtorEq, ↓reduceIte, X42_9, k42_9, b77]
def X42_11 (a0 : Session) (p86 : Session) (o : Bool) : Ex × Fr × St :=
  (.normal, frOf 144 (upd (upd (upd anyF 2 (.ptr 0 0 0)) 4 (.ptr 1 0 0)) 131 (.bool o)), [some ⟨.box, 5, [[.int .i64 a0.state, .int .i64 a0.hold, .int .i64 a0.left, .int .i64 a0.quiet, .int .i64 a0.ups]]⟩, some ⟨.box, 5, [[.int .i64 p86.state, .int .i64 p86.hold, .int .i64 p86.left, .int .i64 p86.quiet, .int .i64 p86.ups]]⟩])
theorem e42_11 (a0 : Session) (p86 : Session) (o : Bool) (h : m42_11 a0 = some o) : evCL T 0 k42_11 (frOf 144 (upd (upd anyF 2 (.ptr 0 0 0)) 4 (.ptr 1 0 0))) [some ⟨.box, 5, [[.int .i64 a0.state, .int .i64 a0.hold, .int .i64 a0.left, .int .i64 a0.quiet, .int .i64 a0.ups]]⟩, some ⟨.box, 5, [[.int .i64 p86.state, .int .i64 p86.hold, .int .i64 p86.left, .int .i64 p86.quiet, .int .i64 p86.ups]]⟩] = some (X42_11 a0 p86 o) := by
  unfold m42_11 at h
  try simp -implicitDefEqProofs only [go_sem, Nat.reduceLT, Nat.reduceAdd, Nat.reduceSub, Nat.reduceMul, Nat.reduceEqDiff, Nat.reduceBEq, Nat.reduceLeDiff, Int.reduceToNat, Int.reduceLT, Int.reduceLE, Int.reduceEq, reduceCtorEq, ↓reduceIte, X42_11, k42_11]
  cases b87 : (eqI a0.state 3 : Bool)
  · replace h := br_f b87 h
    cases h
    simp -implicitDefEqProofs only [go_sem, Nat.reduceLT, Nat.reduceAdd, Nat.reduceSub, Nat.reduceMul, Nat.reduceEqDiff, Nat.reduceBEq, Nat.reduceLeDiff, Int.reduceToNat, Int.reduceLT, Int.reduceLE, Int.reduceEq, reduceCtorEq, ↓reduceIte, X42_11, k42_11, b87]
  · replace h := br_t b87 h
    cases h
    simp -implicitDefEqProofs only [go_sem, Nat.reduceLT, Nat.reduceAdd, Nat.reduceSub, Nat.reduceMul, Nat.reduceEqDiff, Nat.reduceBEq, Nat.reduceLeDiff, Int.reduceToNat, Int.reduceLT, Int.reduceLE, Int.reduceEq, reduceCtorEq, ↓reduceIte, X42_11, k42_11, b87]
def X42_12 (v90 : Bool) (a0 : Session) (p91 : Session) (o : Session) : Ex × Fr × St :=
  (.normal, frOf 144 (upd (upd anyF 2 (.ptr 0 0 0)) 4 (.ptr 1 0 0)), [some ⟨.box, 5, [[.int .i64 o.state, .int .i64 o.hold, .int .i64 o.left, .int .i64 o.quiet, .int .i64 o.ups]]⟩, some ⟨.box, 5, [[.int .i64 p91.state, .int .i64 p91.hold, .int .i64 p91.left, .int .i64 p91.quiet, .int .i64 p91.ups]]⟩])
theorem e42_12 (v90 : Bool) (a0 : Session) (p91 : Session) (o : Session) (h : m42_12 v90 a0 = some o) : evCL T 0 k42_12 (frOf 144 (upd (upd (upd anyF 2 (.ptr 0 0 0)) 4 (.ptr 1 0 0)) 131 (.bool v90))) [some ⟨.box, 5, [[.int .i64 a0.state, .int .i64 a0.hold, .int .i64 a0.left, .int .i64 a0.quiet, .int .i64 a0.ups]]⟩, some ⟨.box, 5, [[.int .i64 p91.state, .int .i64 p91.hold, .int .i64 p91.left, .int .i64 p91.quiet, .int .i64 p91.ups]]⟩] = some (X42_12 v90 a0 p91 o) := by
  unfold m42_12 at h
  try simp -implicitDefEqProofs only [go_sem, Nat.reduceLT, Nat.reduceAdd, Nat.reduceSub, Nat.reduceMul, Nat.reduceEqDiff, Nat.reduceBEq, Nat.reduceLeDiff, Int.reduceToNat, Int.reduceLT, Int.reduceLE, Int.reduceEq, reduceCtorEq, ↓reduceIte, X42_12, k42_12]
  cases b92 : (v90 : Bool)
  · replace h := br_f b92 h
    cases h
    simp -implicitDefEqProofs only [go_sem, Nat.reduceLT, Nat.reduceAdd, Nat.reduceSub, Nat.reduceMul, Nat.reduceEqDiff, Nat.reduceBEq, Nat.reduceLeDiff, Int.reduceToNat, Int.reduceLT, Int.reduceLE, Int.reduceEq, reduceCtorEq, ↓reduceIte, X42_12, k42_12, b92]
  · replace h := br_t b92 h
    cases h
    simp -implicitDefEqProofs only [go_sem, Nat.reduceLT, Nat.reduceAdd, Nat.reduceSub, Nat.reduceMul, Nat.reduceEqDiff, Nat.reduceBEq, Nat.reduceLeDiff, Int.reduceToNat, Int.reduceLT, Int.reduceLE, Int.reduceEq, reduceCtorEq, ↓reduceIte, X42_12, k42_12, b92]
theorem call42 (args : List AV) (S : St) : evCall T (evFL T) 42 args S = lendC (evFL T 42) S (lendAll S [[0, 0, 0, 0, 0], [0, 0]] args) := evCall0 fn42 rfl rfl args S
theorem callz42 (args : List AV) (S : St) : evCallFz T (evFL T) 42 args S = lendZ (evFL T 42) S [[0, 0, 0, 0, 0], [1]] (lendAll S [[0, 0, 0, 0, 0], [0, 0]] args) := evCallFz0 fn42 rfl rfl args S
attribute [go_sem] call42 callz42
theorem e42 (a0 : Session) (a1 : Evt) (r : (Session × (List Int))) (h : m42 a0 a1 = some r) : evFL T 42 [.agg [.int .i64 a0.state, .int .i64 a0.hold, .int .i64 a0.left, .int .i64 a0.quiet, .int .i64 a0.ups], .agg [.int .i64 a1.kind, .int .i64 a1.n]] [] = some (.tup [.agg [.int .i64 r.1.state, .int .i64 r.1.hold, .int .i64 r.1.left, .int .i64 r.1.quiet, .int .i64 r.1.ups], .sl 0 0 r.2.length], [some ⟨.arr, 1, r.2.map encInt⟩]) := by
  unfold m42 at h
  rw [evFL_at fn42 (Nat.le_of_ble_eq_true rfl) rfl (.inr rfl)]
  try simp -implicitDefEqProofs only [go_sem, Nat.reduceLT, Nat.reduceAdd, Nat.reduceSub, Nat.reduceMul, Nat.reduceEqDiff, Nat.reduceBEq, Nat.reduceLeDiff, Int.reduceToNat, Int.reduceLT, Int.reduceLE, Int.reduceEq, reduceCtorEq, ↓reduceIte, i42, c42]
  cases b1 : (eqI a1.kind 10 : Bool)
  · replace h := br_f b1 h
    obtain ⟨v11, q9, h⟩ := bnd_some h
    have w10 := e42_1 (leI 2 a0.state) a0 a1 (⟨0, 0, 0, 0, 0⟩ : Session) v11 q9
    simp only [X42_1] at w10
    try simp -implicitDefEqProofs only [go_sem, Nat.reduceLT, Nat.reduceAdd, Nat.reduceSub, Nat.reduceMul, Nat.reduceEqDiff, Nat.reduceBEq, Nat.reduceLeDiff, Int.reduceToNat, Int.reduceLT, Int.reduceLE, Int.reduceEq, reduceCtorEq, ↓reduceIte] at w10
    try simp -implicitDefEqProofs only [go_sem, Nat.reduceLT, Nat.reduceAdd, Nat.reduceSub, Nat.reduceMul, Nat.reduceEqDiff, Nat.reduceBEq, Nat.reduceLeDiff, Int.reduceToNat, Int.reduceLT, Int.reduceLE, Int.reduceEq, reduceCtorEq, ↓reduceIte, i42, c42, b1, w10]
    cases b12 : (v11 : Bool)
    · replace h := br_f b12 h
      obtain ⟨v21, q19, h⟩ := bnd_some h
      have w20 := e42_2 (leI 2 a0.state) a0 a1 (⟨0, 0, 0, 0, 0⟩ : Session) v21 q19
      simp only [X42_2] at w20
      try simp -implicitDefEqProofs only [go_sem, Nat.reduceLT, Nat.reduceAdd, Nat.reduceSub, Nat.reduceMul, Nat.reduceEqDiff, Nat.reduceBEq, Nat.reduceLeDiff, Int.reduceToNat, Int.reduceLT, Int.reduceLE, Int.reduceEq, reduceCtorEq, ↓reduceIte] at w20
      try simp -implicitDefEqProofs only [go_sem, Nat.reduceLT, Nat.reduceAdd, Nat.reduceSub, Nat.reduceMul, Nat.reduceEqDiff, Nat.reduceBEq, Nat.reduceLeDiff, Int.reduceToNat, Int.reduceLT, Int.reduceLE, Int.reduceEq, reduceCtorEq, ↓reduceIte, i42, c42, b1, w10, b12, w20]
      cases b22 : (v21 : Bool)
      · replace h := br_f b22 h
        obtain ⟨v31, q29, h⟩ := bnd_some h
        have w30 := e42_3 (leI 2 a0.state) a0 a1 (⟨0, 0, 0, 0, 0⟩ : Session) v31 q29
        simp only [X42_3] at w30
        try simp -implicitDefEqProofs only [go_sem, Nat.reduceLT, Nat.reduceAdd, Nat.reduceSub, Nat.reduceMul, Nat.reduceEqDiff, Nat.reduceBEq, Nat.reduceLeDiff, Int.reduceToNat, Int.reduceLT, Int.reduceLE, Int.reduceEq, reduceCtorEq, ↓reduceIte] at w30
        try simp -implicitDefEqProofs only [go_sem, Nat.reduceLT, Nat.reduceAdd, Nat.reduceSub, Nat.reduceMul, Nat.reduceEqDiff, Nat.reduceBEq, Nat.reduceLeDiff, Int.reduceToNat, Int.reduceLT, Int.reduceLE, Int.reduceEq, reduceCtorEq, ↓reduceIte, i42, c42, b1, w10, b12, w20, b22, w30]
        cases b32 : (v31 : Bool)
        · replace h := br_f b32 h
          obtain ⟨v41, q39, h⟩ := bnd_some h
          have w40 := e42_4 (leI 2 a0.state) a0 a1 (⟨0, 0, 0, 0, 0⟩ : Session) v41 q39
          simp only [X42_4] at w40
          try simp -implicitDefEqProofs only [go_sem, Nat.reduceLT, Nat.reduceAdd, Nat.reduceSub, Nat.reduceMul, Nat.reduceEqDiff, Nat.reduceBEq, Nat.reduceLeDiff, Int.reduceToNat, Int.reduceLT, Int.reduceLE, Int.reduceEq, reduceCtorEq, ↓reduceIte] at w40
          try simp -implicitDefEqProofs only [go_sem, Nat.reduceLT, Nat.reduceAdd, Nat.reduceSub, Nat.reduceMul, Nat.reduceEqDiff, Nat.reduceBEq, Nat.reduceLeDiff, Int.reduceToNat, Int.reduceLT, Int.reduceLE, Int.reduceEq, reduceCtorEq, ↓reduceIte, i42, c42, b1, w10, b12, w20, b22, w30, b32, w40]
          cases b42 : (v41 : Bool)
          · replace h := br_f b42 h
            obtain ⟨v51, q49, h⟩ := bnd_some h
            have w50 := e42_5 (leI 2 a0.state) a0 a1 (⟨0, 0, 0, 0, 0⟩ : Session) v51 q49
            simp only [X42_5] at w50
            try simp -implicitDefEqProofs only [go_sem, Nat.reduceLT, Nat.reduceAdd, Nat.reduceSub, Nat.reduceMul, Nat.reduceEqDiff, Nat.reduceBEq, Nat.reduceLeDiff, Int.reduceToNat, Int.reduceLT, Int.reduceLE, Int.reduceEq, reduceCtorEq, ↓reduceIte] at w50
            try simp -implicitDefEqProofs only [go_sem, Nat.reduceLT, Nat.reduceAdd, Nat.reduceSub, Nat.reduceMul, Nat.reduceEqDiff, Nat.reduceBEq, Nat.reduceLeDiff, Int.reduceToNat, Int.reduceLT, Int.reduceLE, Int.reduceEq, reduceCtorEq, ↓reduceIte, i42, c42, b1, w10, b12, w20, b22, w30, b32, w40, b42, w50]
            cases b52 : (v51 : Bool)
            · replace h := br_f b52 h
              try simp -implicitDefEqProofs only [go_sem, Nat.reduceLT, Nat.reduceAdd, Nat.reduceSub, Nat.reduceMul, Nat.reduceEqDiff, Nat.reduceBEq, Nat.reduceLeDiff, Int.reduceToNat, Int.reduceLT, Int.reduceLE, Int.reduceEq, reduceCtorEq, ↓reduceIte, i42, c42, b1, w10, b12, w20, b22, w30, b32, w40, b42, w50, b52]
              cases b56 : (leI 2 a0.state : Bool)
              · replace h := br_f b56 h
                cases h
                simp -implicitDefEqProofs only [go_sem, Nat.reduceLT, Nat.reduceAdd, Nat.reduceSub, Nat.reduceMul, Nat.reduceEqDiff, Nat.reduceBEq, Nat.reduceLeDiff, Int.reduceToNat, Int.reduceLT, Int.reduceLE, Int.reduceEq, reduceCtorEq, ↓reduceIte, i42, c42, b1, w10, b12, w20, b22, w30, b32, w40, b42, w50, b52, b56]
              · replace h := br_t b56 h
                obtain ⟨v62, q60, h⟩ := bnd_some h
                have w61 := e42_6 a0 a1 (⟨0, 0, 0, 0, 0⟩ : Session) v62 q60
                simp only [X42_6] at w61
                try simp -implicitDefEqProofs only [go_sem, Nat.reduceLT, Nat.reduceAdd, Nat.reduceSub, Nat.reduceMul, Nat.reduceEqDiff, Nat.reduceBEq, Nat.reduceLeDiff, Int.reduceToNat, Int.reduceLT, Int.reduceLE, Int.reduceEq, reduceCtorEq, ↓reduceIte] at w61
                try simp -implicitDefEqProofs only [go_sem, Nat.reduceLT, Nat.reduceAdd, Nat.reduceSub, Nat.reduceMul, Nat.reduceEqDiff, Nat.reduceBEq, Nat.reduceLeDiff, Int.reduceToNat, Int.reduceLT, Int.reduceLE, Int.reduceEq, reduceCtorEq, ↓reduceIte, i42, c42, b1, w10, b12, w20, b22, w30, b32, w40, b42, w50, b52, b56, w61]
                cases b63 : (v62 : Bool)
                · replace h := br_f b63 h
                  obtain ⟨v75, q73, h⟩ := bnd_some h
                  have w74 := e42_8 a0 a1 (⟨0, 0, 0, 0, 0⟩ : Session) v75 q73
                  simp only [X42_8] at w74
                  try simp -implicitDefEqProofs only [go_sem, Nat.reduceLT, Nat.reduceAdd, Nat.reduceSub, Nat.reduceMul, Nat.reduceEqDiff, Nat.reduceBEq, Nat.reduceLeDiff, Int.reduceToNat, Int.reduceLT, Int.reduceLE, Int.reduceEq, reduceCtorEq, ↓reduceIte] at w74
                  obtain ⟨v84, q82, h⟩ := bnd_some h
                  have w83 := e42_9 v75 a0 a1 (⟨0, 0, 0, 0, 0⟩ : Session) v84 q82
                  simp only [X42_9] at w83
                  try simp -implicitDefEqProofs only [go_sem, Nat.reduceLT, Nat.reduceAdd, Nat.reduceSub, Nat.reduceMul, Nat.reduceEqDiff, Nat.reduceBEq, Nat.reduceLeDiff, Int.reduceToNat, Int.reduceLT, Int.reduceLE, Int.reduceEq, reduceCtorEq, ↓reduceIte] at w83
                  try simp -implicitDefEqProofs only [go_sem, Nat.reduceLT, Nat.reduceAdd, Nat.reduceSub, Nat.reduceMul, Nat.reduceEqDiff, Nat.reduceBEq, Nat.reduceLeDiff, Int.reduceToNat, Int.reduceLT, Int.reduceLE, Int.reduceEq, reduceCtorEq, ↓reduceIte, i42, c42, b1, w10, b12, w20, b22, w30, b32, w40, b42, w50, b52, b56, w61, b63, w74, w83]
                  cases b85 : (v84 : Bool)
                  · replace h := br_f b85 h
                    obtain ⟨r98, q96, h⟩ := bnd_some h
                    have w97 := e60 a0 0 r98 q96
                    try simp -implicitDefEqProofs only [go_sem, Nat.reduceLT, Nat.reduceAdd, Nat.reduceSub, Nat.reduceMul, Nat.reduceEqDiff, Nat.reduceBEq, Nat.reduceLeDiff, Int.reduceToNat, Int.reduceLT, Int.reduceLE, Int.reduceEq, reduceCtorEq, ↓reduceIte] at w97
                    cases h
                    simp -implicitDefEqProofs only [go_sem, Nat.reduceLT, Nat.reduceAdd, Nat.reduceSub, Nat.reduceMul, Nat.reduceEqDiff, Nat.reduceBEq, Nat.reduceLeDiff, Int.reduceToNat, Int.reduceLT, Int.reduceLE, Int.reduceEq, reduceCtorEq, ↓reduceIte, i42, c42, b1, w10, b12, w20, b22, w30, b32, w40, b42, w50, b52, b56, w61, b63, w74, w83, b85, w97]
                  · replace h := br_t b85 h
                    obtain ⟨v90, q88, h⟩ := bnd_some h
                    have w89 := e42_11 a0 (⟨0, 0, 0, 0, 0⟩ : Session) v90 q88
                    simp only [X42_11] at w89
                    try simp -implicitDefEqProofs only [go_sem, Nat.reduceLT, Nat.reduceAdd, Nat.reduceSub, Nat.reduceMul, Nat.reduceEqDiff, Nat.reduceBEq, Nat.reduceLeDiff, Int.reduceToNat, Int.reduceLT, Int.reduceLE, Int.reduceEq, reduceCtorEq, ↓reduceIte] at w89
                    obtain ⟨v95, q93, h⟩ := bnd_some h
                    have w94 := e42_12 v90 a0 (⟨0, 0, 0, 0, 0⟩ : Session) v95 q93
                    simp only [X42_12] at w94
                    try simp -implicitDefEqProofs only [go_sem, Nat.reduceLT, Nat.reduceAdd, Nat.reduceSub, Nat.reduceMul, Nat.reduceEqDiff, Nat.reduceBEq, Nat.reduceLeDiff, Int.reduceToNat, Int.reduceLT, Int.reduceLE, Int.reduceEq, reduceCtorEq, ↓reduceIte] at w94
                    cases h
                    simp -implicitDefEqProofs only [go_sem, Nat.reduceLT, Nat.reduceAdd, Nat.reduceSub, Nat.reduceMul, Nat.reduceEqDiff, Nat.reduceBEq, Nat.reduceLeDiff, Int.reduceToNat, Int.reduceLT, Int.reduceLE, Int.reduceEq, reduceCtorEq, ↓reduceIte, i42, c42, b1, w10, b12, w20, b22, w30, b32, w40, b42, w50, b52, b56, w61, b63, w74, w83, b85, w89, w94]
                · replace h := br_t b63 h
                  obtain ⟨v70, q68, h⟩ := bnd_some h
                  have w69 := e42_7 (ltI a1.n a0.hold) (⟨3, a0.hold, a0.left, a0.quiet, a0.ups⟩ : Session) a1 (⟨0, 0, 0, 0, 0⟩ : Session) v70 q68
                  simp only [X42_7] at w69
                  try simp -implicitDefEqProofs only [go_sem, Nat.reduceLT, Nat.reduceAdd, Nat.reduceSub, Nat.reduceMul, Nat.reduceEqDiff, Nat.reduceBEq, Nat.reduceLeDiff, Int.reduceToNat, Int.reduceLT, Int.reduceLE, Int.reduceEq, reduceCtorEq, ↓reduceIte] at w69
                  cases h
                  simp -implicitDefEqProofs only [go_sem, Nat.reduceLT, Nat.reduceAdd, Nat.reduceSub, Nat.reduceMul, Nat.reduceEqDiff, Nat.reduceBEq, Nat.reduceLeDiff, Int.reduceToNat, Int.reduceLT, Int.reduceLE, Int.reduceEq, reduceCtorEq, ↓reduceIte, i42, c42, b1, w10, b12, w20, b22, w30, b32, w40, b42, w50, b52, b56, w61, b63, w69]
            · replace h := br_t b52 h
              obtain ⟨r55, q53, h⟩ := bnd_some h
              have w54 := e60 a0 0 r55 q53
              try simp -implicitDefEqProofs only [go_sem, Nat.reduceLT, Nat.reduceAdd, Nat.reduceSub, Nat.reduceMul, Nat.reduceEqDiff, Nat.reduceBEq, Nat.reduceLeDiff, Int.reduceToNat, Int.reduceLT, Int.reduceLE, Int.reduceEq, reduceCtorEq, ↓reduceIte] at w54
              cases h
              simp -implicitDefEqProofs only [go_sem, Nat.reduceLT, Nat.reduceAdd, Nat.reduceSub, Nat.reduceMul, Nat.reduceEqDiff, Nat.reduceBEq, Nat.reduceLeDiff, Int.reduceToNat, Int.reduceLT, Int.reduceLE, Int.reduceEq, reduceCtorEq, ↓reduceIte, i42, c42, b1, w10, b12, w20, b22, w30, b32, w40, b42, w50, b52, w54]
          · replace h := br_t b42 h
            obtain ⟨r45, q43, h⟩ := bnd_some h
            have w44 := e60 a0 0 r45 q43
            try simp -implicitDefEqProofs only [go_sem, Nat.reduceLT, Nat.reduceAdd, Nat.reduceSub, Nat.reduceMul, Nat.reduceEqDiff, Nat.reduceBEq, Nat.reduceLeDiff, Int.reduceToNat, Int.reduceLT, Int.reduceLE, Int.reduceEq, reduceCtorEq, ↓reduceIte] at w44
            cases h
            simp -implicitDefEqProofs only [go_sem, Nat.reduceLT, Nat.reduceAdd, Nat.reduceSub, Nat.reduceMul, Nat.reduceEqDiff, Nat.reduceBEq, Nat.reduceLeDiff, Int.reduceToNat, Int.reduceLT, Int.reduceLE, Int.reduceEq, reduceCtorEq, ↓reduceIte, i42, c42, b1, w10, b12, w20, b22, w30, b32, w40, b42, w44]
        · replace h := br_t b32 h
          obtain ⟨r35, q33, h⟩ := bnd_some h
          have w34 := e60 a0 1 r35 q33
          try simp -implicitDefEqProofs only [go_sem, Nat.reduceLT, Nat.reduceAdd, Nat.reduceSub, Nat.reduceMul, Nat.reduceEqDiff, Nat.reduceBEq, Nat.reduceLeDiff, Int.reduceToNat, Int.reduceLT, Int.reduceLE, Int.reduceEq, reduceCtorEq, ↓reduceIte] at w34
          cases h
          simp -implicitDefEqProofs only [go_sem, Nat.reduceLT, Nat.reduceAdd, Nat.reduceSub, Nat.reduceMul, Nat.reduceEqDiff, Nat.reduceBEq, Nat.reduceLeDiff, Int.reduceToNat, Int.reduceLT, Int.reduceLE, Int.reduceEq, reduceCtorEq, ↓reduceIte, i42, c42, b1, w10, b12, w20, b22, w30, b32, w34]
      · replace h := br_t b22 h
        obtain ⟨r25, q23, h⟩ := bnd_some h
        have w24 := e60 a0 2 r25 q23
        try simp -implicitDefEqProofs only [go_sem, Nat.reduceLT, Nat.reduceAdd, Nat.reduceSub, Nat.reduceMul, Nat.reduceEqDiff, Nat.reduceBEq, Nat.reduceLeDiff, Int.reduceToNat, Int.reduceLT, Int.reduceLE, Int.reduceEq, reduceCtorEq, ↓reduceIte] at w24
        cases h
        simp -implicitDefEqProofs only [go_sem, Nat.reduceLT, Nat.reduceAdd, Nat.reduceSub, Nat.reduceMul, Nat.reduceEqDiff, Nat.reduceBEq, Nat.reduceLeDiff, Int.reduceToNat, Int.reduceLT, Int.reduceLE, Int.reduceEq, reduceCtorEq, ↓reduceIte, i42, c42, b1, w10, b12, w20, b22, w24]
    · replace h := br_t b12 h
      obtain ⟨r15, q13, h⟩ := bnd_some h
      have w14 := e60 a0 1 r15 q13
      try simp -implicitDefEqProofs only [go_sem, Nat.reduceLT, Nat.reduceAdd, Nat.reduceSub, Nat.reduceMul, Nat.reduceEqDiff, Nat.reduceBEq, Nat.reduceLeDiff, Int.reduceToNat, Int.reduceLT, Int.reduceLE, Int.reduceEq, reduceCtorEq, ↓reduceIte] at w14
      cases h
      simp -implicitDefEqProofs only [go_sem, Nat.reduceLT, Nat.reduceAdd, Nat.reduceSub, Nat.reduceMul, Nat.reduceEqDiff, Nat.reduceBEq, Nat.reduceLeDiff, Int.reduceToNat, Int.reduceLT, Int.reduceLE, Int.reduceEq, reduceCtorEq, ↓reduceIte, i42, c42, b1, w10, b12, w14]
  · replace h := br_t b1 h
    obtain ⟨⟨r4, r5⟩, q2, h⟩ := bnd_some h
    replace h := sel2_some h
    have w3 := e49 a0 (r4, r5) q2
    try simp -implicitDefEqProofs only [go_sem, Nat.reduceLT, Nat.reduceAdd, Nat.reduceSub, Nat.reduceMul, Nat.reduceEqDiff, Nat.reduceBEq, Nat.reduceLeDiff, Int.reduceToNat, Int.reduceLT, Int.reduceLE, Int.reduceEq, reduceCtorEq, ↓reduceIte] at w3
    cases h
    simp -implicitDefEqProofs only [go_sem, Nat.reduceLT, Nat.reduceAdd, Nat.reduceSub, Nat.reduceMul, Nat.reduceEqDiff, Nat.reduceBEq, Nat.reduceLeDiff, Int.reduceToNat, Int.reduceLT, Int.reduceLE, Int.reduceEq, reduceCtorEq, ↓reduceIte, i42, c42, b1, w3]
-- f26 spec.PlayEvents
def X26_1 (a1 : (List Evt)) (r4 : Bool) (p5 : Session) (r3 : Session) (o : Bool) : Ex × Fr × St :=
  (.normal, frOf 50 (upd (upd (upd (upd anyF 1 (.ts .imm 2 (a1.map encEvt))) 4 (.ptr 0 0 0)) 7 (.ptr 1 0 0)) 25 (.bool o)), [some ⟨.box, 5, [[.int .i64 p5.state, .int .i64 p5.hold, .int .i64 p5.left, .int .i64 p5.quiet, .int .i64 p5.ups]]⟩, some ⟨.box, 5, [[.int .i64 r3.state, .int .i64 r3.hold, .int .i64 r3.left, .int .i64 r3.quiet, .int .i64 r3.ups]]⟩])
theorem e26_1 (a1 : (List Evt)) (r4 : Bool) (p5 : Session) (r3 : Session) (o : Bool) (h : m26_1 a1 r4 = some o) : evCL T 0 k26_1 (frOf 50 (upd (upd (upd (upd anyF 1 (.ts .imm 2 (a1.map encEvt))) 4 (.ptr 0 0 0)) 7 (.ptr 1 0 0)) 8 (.bool r4))) [some ⟨.box, 5, [[.int .i64 p5.state, .int .i64 p5.hold, .int .i64 p5.left, .int .i64 p5.quiet, .int .i64 p5.ups]]⟩, some ⟨.box, 5, [[.int .i64 r3.state, .int .i64 r3.hold, .int .i64 r3.left, .int .i64 r3.quiet, .int .i64 r3.ups]]⟩] = some (X26_1 a1 r4 p5 r3 o) := by
  unfold m26_1 at h
  try simp -implicitDefEqProofs only [go_sem, Nat.reduceLT, Nat.reduceAdd, Nat.reduceSub, Nat.reduceMul, Nat.reduceEqDiff, Nat.reduceBEq, Nat.reduceLeDiff, Int.reduceToNat, Int.reduceLT, Int.reduceLE, Int.reduceEq, reduceCtorEq, ↓reduceIte, X26_1, k26_1]
  cases b6 : (r4 : Bool)
  · replace h := br_f b6 h
    cases h
    simp -implicitDefEqProofs only [go_sem, Nat.reduceLT, Nat.reduceAdd, Nat.reduceSub, Nat.reduceMul, Nat.reduceEqDiff, Nat.reduceBEq, Nat.reduceLeDiff, Int.reduceToNat, Int.reduceLT, Int.reduceLE, Int.reduceEq, reduceCtorEq, ↓reduceIte, X26_1, k26_1, b6]
  · replace h := br_t b6 h
    cases h
    simp -implicitDefEqProofs only [go_sem, Nat.reduceLT, Nat.reduceAdd, Nat.reduceSub, Nat.reduceMul, Nat.reduceEqDiff, Nat.reduceBEq, Nat.reduceLeDiff, Int.reduceToNat, Int.reduceLT, Int.reduceLE, Int.reduceEq, reduceCtorEq, ↓reduceIte, X26_1, k26_1, b6]
def X26_2 (a1 : (List Evt)) (p11 : Int) (p12 : Session) (o : ((Session × List Int) ⊕ Session)) : Ex × Fr × St :=
  match o with
  | .inl o => (.exit 0, frOf 50 (upd (upd (upd anyF 4 (.ptr 0 0 0)) 7 (.ptr 1 0 0)) 9 (.sl 2 0 o.2.length)), [some ⟨.box, 5, [[.int .i64 p12.state, .int .i64 p12.hold, .int .i64 p12.left, .int .i64 p12.quiet, .int .i64 p12.ups]]⟩, some ⟨.box, 5, [[.int .i64 o.1.state, .int .i64 o.1.hold, .int .i64 o.1.left, .int .i64 o.1.quiet, .int .i64 o.1.ups]]⟩, some ⟨.arr, 1, o.2.map encInt⟩])
  | .inr o => (.ret, frOf 50 (upd (upd (upd anyF 4 (.ptr 0 0 0)) 5 (.sl 1 0 0)) 6 (.bool false)), [some ⟨.box, 5, [[.int .i64 o.state, .int .i64 o.hold, .int .i64 o.left, .int .i64 o.quiet, .int .i64 o.ups]]⟩, some ⟨.arr, 1, []⟩])
def E26_2 (a1 : (List Evt)) (p11 : Int) (p12 : Session) (s : (Int × Session × List Int)) : Fr × St := (frOf 50 (upd (upd (upd (upd (upd (upd anyF 4 (.ptr 0 0 0)) 7 (.ptr 1 0 0)) 9 (.sl 2 0 s.2.2.length)) 27 (.ts .imm 2 (a1.map encEvt))) 28 (.int .i64 p11)) 29 (.int .i64 s.1)), [some ⟨.box, 5, [[.int .i64 p12.state, .int .i64 p12.hold, .int .i64 p12.left, .int .i64 p12.quiet, .int .i64 p12.ups]]⟩, some ⟨.box, 5, [[.int .i64 s.2.1.state, .int .i64 s.2.1.hold, .int .i64 s.2.1.left, .int .i64 s.2.1.quiet, .int .i64 s.2.1.ups]]⟩, some ⟨.arr, 1, s.2.2.map encInt⟩])
theorem b26_2 (a1 : (List Evt)) (p11 : Int) (p12 : Session) (s : (Int × Session × List Int)) (o : Ctl (Int × Session × List Int) ((Session × List Int) ⊕ Session)) (h : m26_2b a1 p11 s = some o) : evCL T 0 k26_2b (E26_2 a1 p11 p12 s).1 (E26_2 a1 p11 p12 s).2 = some (ctlX (E26_2 a1 p11 p12) (X26_2 a1 p11 p12) o) := by
  unfold m26_2b at h
  obtain ⟨s28, s29, s30⟩ := s
  replace h := sel3_some h
  try simp -implicitDefEqProofs only [go_sem, Nat.reduceLT, Nat.reduceAdd, Nat.reduceSub, Nat.reduceMul, Nat.reduceEqDiff, Nat.reduceBEq, Nat.reduceLeDiff, Int.reduceToNat, Int.reduceLT, Int.reduceLE, Int.reduceEq, reduceCtorEq, ↓reduceIte, E26_2, X26_2, k26_2b]
  cases b31 : (ltI s28 p11 : Bool)
  · replace h := br_f b31 h
    cases h
    simp -implicitDefEqProofs only [go_sem, Nat.reduceLT, Nat.reduceAdd, Nat.reduceSub, Nat.reduceMul, Nat.reduceEqDiff, Nat.reduceBEq, Nat.reduceLeDiff, Int.reduceToNat, Int.reduceLT, Int.reduceLE, Int.reduceEq, reduceCtorEq, ↓reduceIte, E26_2, X26_2, k26_2b, b31]
  · replace h := br_t b31 h
    obtain ⟨x32, q33, h⟩ := bnd_some h
    obtain ⟨g34, g35, g36⟩ := idx_row encEvt q33
    try simp -implicitDefEqProofs only [go_sem, Nat.reduceLT, Nat.reduceAdd, Nat.reduceSub, Nat.reduceMul, Nat.reduceEqDiff, Nat.reduceBEq, Nat.reduceLeDiff, Int.reduceToNat, Int.reduceLT, Int.reduceLE, Int.reduceEq, reduceCtorEq, ↓reduceIte] at g35
    try simp -implicitDefEqProofs only [go_sem, Nat.reduceLT, Nat.reduceAdd, Nat.reduceSub, Nat.reduceMul, Nat.reduceEqDiff, Nat.reduceBEq, Nat.reduceLeDiff, Int.reduceToNat, Int.reduceLT, Int.reduceLE, Int.reduceEq, reduceCtorEq, ↓reduceIte] at g36
    obtain ⟨r39, q37, h⟩ := bnd_some h
    have w38 := e41 x32 r39 q37
    try simp -implicitDefEqProofs only [go_sem, Nat.reduceLT, Nat.reduceAdd, Nat.reduceSub, Nat.reduceMul, Nat.reduceEqDiff, Nat.reduceBEq, Nat.reduceLeDiff, Int.reduceToNat, Int.reduceLT, Int.reduceLE, Int.reduceEq, reduceCtorEq, ↓reduceIte] at w38
    try simp -implicitDefEqProofs only [go_sem, Nat.reduceLT, Nat.reduceAdd, Nat.reduceSub, Nat.reduceMul, Nat.reduceEqDiff, Nat.reduceBEq, Nat.reduceLeDiff, Int.reduceToNat, Int.reduceLT, Int.reduceLE, Int.reduceEq, reduceCtorEq, ↓reduceIte, E26_2, X26_2, k26_2b, b31, g34, g35, g36, w38]
    cases b40 : (r39 : Bool)
    · replace h := br_f b40 h
      cases h
      simp -implicitDefEqProofs only [go_sem, Nat.reduceLT, Nat.reduceAdd, Nat.reduceSub, Nat.reduceMul, Nat.reduceEqDiff, Nat.reduceBEq, Nat.reduceLeDiff, Int.reduceToNat, Int.reduceLT, Int.reduceLE, Int.reduceEq, reduceCtorEq, ↓reduceIte, E26_2, X26_2, k26_2b, b31, g34, g35, g36, w38, b40]
    · replace h := br_t b40 h
      obtain ⟨⟨r43, r44⟩, q41, h⟩ := bnd_some h
      replace h := sel2_some h
      have w42 := e42 s29 x32 (r43, r44) q41
      try simp -implicitDefEqProofs only [go_sem, Nat.reduceLT, Nat.reduceAdd, Nat.reduceSub, Nat.reduceMul, Nat.reduceEqDiff, Nat.reduceBEq, Nat.reduceLeDiff, Int.reduceToNat, Int.reduceLT, Int.reduceLE, Int.reduceEq, reduceCtorEq, ↓reduceIte] at w42
      obtain ⟨g45, h⟩ := ck_some h
      try simp -implicitDefEqProofs only [go_sem, Nat.reduceLT, Nat.reduceAdd, Nat.reduceSub, Nat.reduceMul, Nat.reduceEqDiff, Nat.reduceBEq, Nat.reduceLeDiff, Int.reduceToNat, Int.reduceLT, Int.reduceLE, Int.reduceEq, reduceCtorEq, ↓reduceIte] at g45
      cases h
      simp -implicitDefEqProofs only [go_sem, Nat.reduceLT, Nat.reduceAdd, Nat.reduceSub, Nat.reduceMul, Nat.reduceEqDiff, Nat.reduceBEq, Nat.reduceLeDiff, Int.reduceToNat, Int.reduceLT, Int.reduceLE, Int.reduceEq, reduceCtorEq, ↓reduceIte, E26_2, X26_2, k26_2b, b31, g34, g35, g36, w38, b40, w42, g45]
theorem e26_2 (a1 : (List Evt)) (p11 : Int) (p12 : Session) (s : (Int × Session × List Int)) (o : ((Session × List Int) ⊕ Session)) (h : loopP (m26_2b a1 p11) s = some o) : evCL T 0 (.loop k26_2b) (E26_2 a1 p11 p12 s).1 (E26_2 a1 p11 p12 s).2 = some (X26_2 a1 p11 p12 o) :=
  loop_walk (E := E26_2 a1 p11 p12) (X := X26_2 a1 p11 p12) (by intro b; rcases b with b | b <;> (simp only [X26_2]; nofun)) (b26_2 a1 p11 p12) s o h
theorem call26 (args : List AV) (S : St) : evCall T (evFL T) 26 args S = lendC (evFL T 26) S (lendAll S [[0], [2]] args) := evCall0 fn26 rfl rfl args S
theorem callz26 (args : List AV) (S : St) : evCallFz T (evFL T) 26 args S = lendZ (evFL T 26) S [[0, 0, 0, 0, 0], [1], [0]] (lendAll S [[0], [2]] args) := evCallFz0 fn26 rfl rfl args S
attribute [go_sem] call26 callz26
theorem e26 (a0 : Int) (a1 : (List Evt)) (r : (Session × (List Int) × Bool)) (h : m26 a0 a1 = some r) : evFL T 26 [.int .i64 a0, .ts .imm 2 (a1.map encEvt)] [] = some (.tup [.agg [.int .i64 r.1.state, .int .i64 r.1.hold, .int .i64 r.1.left, .int .i64 r.1.quiet, .int .i64 r.1.ups], .sl 0 0 r.2.1.length, .bool r.2.2], [some ⟨.arr, 1, r.2.1.map encInt⟩]) := by
  unfold m26 at h
  rw [evFL_at fn26 (Nat.le_of_ble_eq_true rfl) rfl (.inr rfl)]
  obtain ⟨⟨r3, r4⟩, q1, h⟩ := bnd_some h
  replace h := sel2_some h
  have w2 := e11 a0 (r3, r4) q1
  try simp -implicitDefEqProofs only [go_sem, Nat.reduceLT, Nat.reduceAdd, Nat.reduceSub, Nat.reduceMul, Nat.reduceEqDiff, Nat.reduceBEq, Nat.reduceLeDiff, Int.reduceToNat, Int.reduceLT, Int.reduceLE, Int.reduceEq, reduceCtorEq, ↓reduceIte] at w2
  obtain ⟨v9, q7, h⟩ := bnd_some h
  have w8 := e26_1 a1 r4 (⟨0, 0, 0, 0, 0⟩ : Session) r3 v9 q7
  simp only [X26_1] at w8
  try simp -implicitDefEqProofs only [go_sem, Nat.reduceLT, Nat.reduceAdd, Nat.reduceSub, Nat.reduceMul, Nat.reduceEqDiff, Nat.reduceBEq, Nat.reduceLeDiff, Int.reduceToNat, Int.reduceLT, Int.reduceLE, Int.reduceEq, reduceCtorEq, ↓reduceIte] at w8
  try simp -implicitDefEqProofs only [go_sem, Nat.reduceLT, Nat.reduceAdd, Nat.reduceSub, Nat.reduceMul, Nat.reduceEqDiff, Nat.reduceBEq, Nat.reduceLeDiff, Int.reduceToNat, Int.reduceLT, Int.reduceLE, Int.reduceEq, reduceCtorEq, ↓reduceIte, i26, c26, w2, w8]
  cases b10 : (v9 : Bool)
  · replace h := br_f b10 h
    try simp -implicitDefEqProofs only [go_sem, Nat.reduceLT, Nat.reduceAdd, Nat.reduceSub, Nat.reduceMul, Nat.reduceEqDiff, Nat.reduceBEq, Nat.reduceLeDiff, Int.reduceToNat, Int.reduceLT, Int.reduceLE, Int.reduceEq, reduceCtorEq, ↓reduceIte, i26, c26, w2, w8, b10]
    obtain ⟨o, q46, h⟩ := bnd_some h
    rcases o with ⟨v48, v49⟩ | v50
    · replace h := selS_l h
      replace h := sel2_some h
      have w47 := e26_2 a1 (↑a1.length : Int) (⟨0, 0, 0, 0, 0⟩ : Session) (0, r3, []) (.inl (v48, v49)) q46
      simp only [E26_2, X26_2] at w47
      try simp -implicitDefEqProofs only [go_sem, Nat.reduceLT, Nat.reduceAdd, Nat.reduceSub, Nat.reduceMul, Nat.reduceEqDiff, Nat.reduceBEq, Nat.reduceLeDiff, Int.reduceToNat, Int.reduceLT, Int.reduceLE, Int.reduceEq, reduceCtorEq, ↓reduceIte] at w47
      cases h
      simp -implicitDefEqProofs only [go_sem, Nat.reduceLT, Nat.reduceAdd, Nat.reduceSub, Nat.reduceMul, Nat.reduceEqDiff, Nat.reduceBEq, Nat.reduceLeDiff, Int.reduceToNat, Int.reduceLT, Int.reduceLE, Int.reduceEq, reduceCtorEq, ↓reduceIte, i26, c26, w2, w8, b10, w47]
    · replace h := selS_r h
      have w47 := e26_2 a1 (↑a1.length : Int) (⟨0, 0, 0, 0, 0⟩ : Session) (0, r3, []) (.inr v50) q46
      simp only [E26_2, X26_2] at w47
      try simp -implicitDefEqProofs only [go_sem, Nat.reduceLT, Nat.reduceAdd, Nat.reduceSub, Nat.reduceMul, Nat.reduceEqDiff, Nat.reduceBEq, Nat.reduceLeDiff, Int.reduceToNat, Int.reduceLT, Int.reduceLE, Int.reduceEq, reduceCtorEq, ↓reduceIte] at w47
      cases h
      simp -implicitDefEqProofs only [go_sem, Nat.reduceLT, Nat.reduceAdd, Nat.reduceSub, Nat.reduceMul, Nat.reduceEqDiff, Nat.reduceBEq, Nat.reduceLeDiff, Int.reduceToNat, Int.reduceLT, Int.reduceLE, Int.reduceEq, reduceCtorEq, ↓reduceIte, i26, c26, w2, w8, b10, w47]
  · replace h := br_t b10 h
    cases h
    simp -implicitDefEqProofs only [go_sem, Nat.reduceLT, Nat.reduceAdd, Nat.reduceSub, Nat.reduceMul, Nat.reduceEqDiff, Nat.reduceBEq, Nat.reduceLeDiff, Int.reduceToNat, Int.reduceLT, Int.reduceLE, Int.reduceEq, reduceCtorEq, ↓reduceIte, i26, c26, w2, w8, b10]
-- f36 laws.sameInts
def X36_1 (a0 : (List Int)) (a1 : (List Int)) (p2 : Int) (o : (Unit ⊕ Unit)) : Ex × Fr × St :=
  match o with
  | .inl o => (.exit 0, frOf 26 (anyF), [])
  | .inr o => (.ret, frOf 26 (upd anyF 4 (.bool false)), [])
def E36_1 (a0 : (List Int)) (a1 : (List Int)) (p2 : Int) (s : Int) : Fr × St := (frOf 26 (upd (upd (upd (upd anyF 0 (.ts .imm 1 (a0.map encInt))) 1 (.ts .imm 1 (a1.map encInt))) 12 (.int .i64 p2)) 13 (.int .i64 s)), [])
theorem b36_1 (a0 : (List Int)) (a1 : (List Int)) (p2 : Int) (s : Int) (o : Ctl Int (Unit ⊕ Unit)) (h : m36_1b a0 a1 p2 s = some o) : evCL T 0 k36_1b (E36_1 a0 a1 p2 s).1 (E36_1 a0 a1 p2 s).2 = some (ctlX (E36_1 a0 a1 p2) (X36_1 a0 a1 p2) o) := by
  unfold m36_1b at h
  revert h
  generalize s = s15
  intro h
  try simp -implicitDefEqProofs only [go_sem, Nat.reduceLT, Nat.reduceAdd, Nat.reduceSub, Nat.reduceMul, Nat.reduceEqDiff, Nat.reduceBEq, Nat.reduceLeDiff, Int.reduceToNat, Int.reduceLT, Int.reduceLE, Int.reduceEq, reduceCtorEq, ↓reduceIte, E36_1, X36_1, k36_1b]
  cases b16 : (ltI s15 p2 : Bool)
  · replace h := br_f b16 h
    cases h
    simp -implicitDefEqProofs only [go_sem, Nat.reduceLT, Nat.reduceAdd, Nat.reduceSub, Nat.reduceMul, Nat.reduceEqDiff, Nat.reduceBEq, Nat.reduceLeDiff, Int.reduceToNat, Int.reduceLT, Int.reduceLE, Int.reduceEq, reduceCtorEq, ↓reduceIte, E36_1, X36_1, k36_1b, b16]
  · replace h := br_t b16 h
    obtain ⟨x17, q18, h⟩ := bnd_some h
    obtain ⟨g19, g20, g21⟩ := idx_row encInt q18
    try simp -implicitDefEqProofs only [go_sem, Nat.reduceLT, Nat.reduceAdd, Nat.reduceSub, Nat.reduceMul, Nat.reduceEqDiff, Nat.reduceBEq, Nat.reduceLeDiff, Int.reduceToNat, Int.reduceLT, Int.reduceLE, Int.reduceEq, reduceCtorEq, ↓reduceIte] at g20
    try simp -implicitDefEqProofs only [go_sem, Nat.reduceLT, Nat.reduceAdd, Nat.reduceSub, Nat.reduceMul, Nat.reduceEqDiff, Nat.reduceBEq, Nat.reduceLeDiff, Int.reduceToNat, Int.reduceLT, Int.reduceLE, Int.reduceEq, reduceCtorEq, ↓reduceIte] at g21
    obtain ⟨x22, q23, h⟩ := bnd_some h
    obtain ⟨g24, g25, g26⟩ := idx_row encInt q23
    try simp -implicitDefEqProofs only [go_sem, Nat.reduceLT, Nat.reduceAdd, Nat.reduceSub, Nat.reduceMul, Nat.reduceEqDiff, Nat.reduceBEq, Nat.reduceLeDiff, Int.reduceToNat, Int.reduceLT, Int.reduceLE, Int.reduceEq, reduceCtorEq, ↓reduceIte] at g25
    try simp -implicitDefEqProofs only [go_sem, Nat.reduceLT, Nat.reduceAdd, Nat.reduceSub, Nat.reduceMul, Nat.reduceEqDiff, Nat.reduceBEq, Nat.reduceLeDiff, Int.reduceToNat, Int.reduceLT, Int.reduceLE, Int.reduceEq, reduceCtorEq, ↓reduceIte] at g26
    try simp -implicitDefEqProofs only [go_sem, Nat.reduceLT, Nat.reduceAdd, Nat.reduceSub, Nat.reduceMul, Nat.reduceEqDiff, Nat.reduceBEq, Nat.reduceLeDiff, Int.reduceToNat, Int.reduceLT, Int.reduceLE, Int.reduceEq, reduceCtorEq, ↓reduceIte, E36_1, X36_1, k36_1b, b16, g19, g20, g21, g24, g25, g26]
    cases b27 : (eqI x17 x22 : Bool)
    · replace h := br_f b27 h
      cases h
      simp -implicitDefEqProofs only [go_sem, Nat.reduceLT, Nat.reduceAdd, Nat.reduceSub, Nat.reduceMul, Nat.reduceEqDiff, Nat.reduceBEq, Nat.reduceLeDiff, Int.reduceToNat, Int.reduceLT, Int.reduceLE, Int.reduceEq, reduceCtorEq, ↓reduceIte, E36_1, X36_1, k36_1b, b16, g19, g20, g21, g24, g25, g26, b27]
    · replace h := br_t b27 h
      cases h
      simp -implicitDefEqProofs only [go_sem, Nat.reduceLT, Nat.reduceAdd, Nat.reduceSub, Nat.reduceMul, Nat.reduceEqDiff, Nat.reduceBEq, Nat.reduceLeDiff, Int.reduceToNat, Int.reduceLT, Int.reduceLE, Int.reduceEq, reduceCtorEq, ↓reduceIte, E36_1, X36_1, k36_1b, b16, g19, g20, g21, g24, g25, g26, b27]
theorem e36_1 (a0 : (List Int)) (a1 : (List Int)) (p2 : Int) (s : Int) (o : (Unit ⊕ Unit)) (h : loopP (m36_1b a0 a1 p2) s = some o) : evCL T 0 (.loop k36_1b) (E36_1 a0 a1 p2 s).1 (E36_1 a0 a1 p2 s).2 = some (X36_1 a0 a1 p2 o) :=
  loop_walk (E := E36_1 a0 a1 p2) (X := X36_1 a0 a1 p2) (by intro b; rcases b with b | b <;> (simp only [X36_1]; nofun)) (b36_1 a0 a1 p2) s o h
theorem call36 (args : List AV) (S : St) : evCall T (evFL T) 36 args S = lendC (evFL T 36) S (lendAll S [[1], [1]] args) := evCall0 fn36 rfl rfl args S
theorem callz36 (args : List AV) (S : St) : evCallFz T (evFL T) 36 args S = lendZ (evFL T 36) S [[0]] (lendAll S [[1], [1]] args) := evCallFz0 fn36 rfl rfl args S
attribute [go_sem] call36 callz36
theorem e36 (a0 : (List Int)) (a1 : (List Int)) (r : Bool) (h : m36 a0 a1 = some r) : evFL T 36 [.ts .imm 1 (a0.map encInt), .ts .imm 1 (a1.map encInt)] [] = some (.bool r, []) := by
  unfold m36 at h
  rw [evFL_at fn36 (Nat.le_of_ble_eq_true rfl) rfl (.inr rfl)]
  try simp -implicitDefEqProofs only [go_sem, Nat.reduceLT, Nat.reduceAdd, Nat.reduceSub, Nat.reduceMul, Nat.reduceEqDiff, Nat.reduceBEq, Nat.reduceLeDiff, Int.reduceToNat, Int.reduceLT, Int.reduceLE, Int.reduceEq, reduceCtorEq, ↓reduceIte, i36, c36]
  cases b1 : (eqI (↑a0.length : Int) (↑a1.length : Int) : Bool)
  · replace h := br_f b1 h
    cases h
    simp -implicitDefEqProofs only [go_sem, Nat.reduceLT, Nat.reduceAdd, Nat.reduceSub, Nat.reduceMul, Nat.reduceEqDiff, Nat.reduceBEq, Nat.reduceLeDiff, Int.reduceToNat, Int.reduceLT, Int.reduceLE, Int.reduceEq, reduceCtorEq, ↓reduceIte, i36, c36, b1]
  · replace h := br_t b1 h
    try simp -implicitDefEqProofs only [go_sem, Nat.reduceLT, Nat.reduceAdd, Nat.reduceSub, Nat.reduceMul, Nat.reduceEqDiff, Nat.reduceBEq, Nat.reduceLeDiff, Int.reduceToNat, Int.reduceLT, Int.reduceLE, Int.reduceEq, reduceCtorEq, ↓reduceIte, i36, c36, b1]
    obtain ⟨o, q28, h⟩ := bnd_some h
    rcases o with ⟨⟩ | ⟨⟩
    · replace h := selS_l h
      have w29 := e36_1 a0 a1 (↑a0.length : Int) 0 (.inl ()) q28
      simp only [E36_1, X36_1] at w29
      try simp -implicitDefEqProofs only [go_sem, Nat.reduceLT, Nat.reduceAdd, Nat.reduceSub, Nat.reduceMul, Nat.reduceEqDiff, Nat.reduceBEq, Nat.reduceLeDiff, Int.reduceToNat, Int.reduceLT, Int.reduceLE, Int.reduceEq, reduceCtorEq, ↓reduceIte] at w29
      cases h
      simp -implicitDefEqProofs only [go_sem, Nat.reduceLT, Nat.reduceAdd, Nat.reduceSub, Nat.reduceMul, Nat.reduceEqDiff, Nat.reduceBEq, Nat.reduceLeDiff, Int.reduceToNat, Int.reduceLT, Int.reduceLE, Int.reduceEq, reduceCtorEq, ↓reduceIte, i36, c36, b1, w29]
    · replace h := selS_r h
      have w29 := e36_1 a0 a1 (↑a0.length : Int) 0 (.inr ()) q28
      simp only [E36_1, X36_1] at w29
      try simp -implicitDefEqProofs only [go_sem, Nat.reduceLT, Nat.reduceAdd, Nat.reduceSub, Nat.reduceMul, Nat.reduceEqDiff, Nat.reduceBEq, Nat.reduceLeDiff, Int.reduceToNat, Int.reduceLT, Int.reduceLE, Int.reduceEq, reduceCtorEq, ↓reduceIte] at w29
      cases h
      simp -implicitDefEqProofs only [go_sem, Nat.reduceLT, Nat.reduceAdd, Nat.reduceSub, Nat.reduceMul, Nat.reduceEqDiff, Nat.reduceBEq, Nat.reduceLeDiff, Int.reduceToNat, Int.reduceLT, Int.reduceLE, Int.reduceEq, reduceCtorEq, ↓reduceIte, i36, c36, b1, w29]
-- f16 impl.GoodSession
def X16_1 (a0 : Session) (o : Bool) : Ex × Fr × St :=
  (.normal, frOf 43 (upd (upd anyF 1 (.ptr 0 0 0)) 20 (.bool o)), [some ⟨.box, 5, [[.int .i64 a0.state, .int .i64 a0.hold, .int .i64 a0.left, .int .i64 a0.quiet, .int .i64 a0.ups]]⟩])
theorem e16_1 (a0 : Session) (o : Bool) (h : m16_1 a0 = some o) : evCL T 0 k16_1 (frOf 43 (upd anyF 1 (.ptr 0 0 0))) [some ⟨.box, 5, [[.int .i64 a0.state, .int .i64 a0.hold, .int .i64 a0.left, .int .i64 a0.quiet, .int .i64 a0.ups]]⟩] = some (X16_1 a0 o) := by
  unfold m16_1 at h
  obtain ⟨r3, q1, h⟩ := bnd_some h
  have w2 := e40 a0.state 0 4 r3 q1
  try simp -implicitDefEqProofs only [go_sem, Nat.reduceLT, Nat.reduceAdd, Nat.reduceSub, Nat.reduceMul, Nat.reduceEqDiff, Nat.reduceBEq, Nat.reduceLeDiff, Int.reduceToNat, Int.reduceLT, Int.reduceLE, Int.reduceEq, reduceCtorEq, ↓reduceIte] at w2
  try simp -implicitDefEqProofs only [go_sem, Nat.reduceLT, Nat.reduceAdd, Nat.reduceSub, Nat.reduceMul, Nat.reduceEqDiff, Nat.reduceBEq, Nat.reduceLeDiff, Int.reduceToNat, Int.reduceLT, Int.reduceLE, Int.reduceEq, reduceCtorEq, ↓reduceIte, X16_1, k16_1, w2]
  cases b4 : (r3 : Bool)
  · replace h := br_f b4 h
    cases h
    simp -implicitDefEqProofs only [go_sem, Nat.reduceLT, Nat.reduceAdd, Nat.reduceSub, Nat.reduceMul, Nat.reduceEqDiff, Nat.reduceBEq, Nat.reduceLeDiff, Int.reduceToNat, Int.reduceLT, Int.reduceLE, Int.reduceEq, reduceCtorEq, ↓reduceIte, X16_1, k16_1, w2, b4]
  · replace h := br_t b4 h
    obtain ⟨r7, q5, h⟩ := bnd_some h
    have w6 := e40 a0.hold 3 90 r7 q5
    try simp -implicitDefEqProofs only [go_sem, Nat.reduceLT, Nat.reduceAdd, Nat.reduceSub, Nat.reduceMul, Nat.reduceEqDiff, Nat.reduceBEq, Nat.reduceLeDiff, Int.reduceToNat, Int.reduceLT, Int.reduceLE, Int.reduceEq, reduceCtorEq, ↓reduceIte] at w6
    try simp -implicitDefEqProofs only [go_sem, Nat.reduceLT, Nat.reduceAdd, Nat.reduceSub, Nat.reduceMul, Nat.reduceEqDiff, Nat.reduceBEq, Nat.reduceLeDiff, Int.reduceToNat, Int.reduceLT, Int.reduceLE, Int.reduceEq, reduceCtorEq, ↓reduceIte, X16_1, k16_1, w2, b4, w6]
    cases b8 : (r7 : Bool)
    · replace h := br_f b8 h
      cases h
      simp -implicitDefEqProofs only [go_sem, Nat.reduceLT, Nat.reduceAdd, Nat.reduceSub, Nat.reduceMul, Nat.reduceEqDiff, Nat.reduceBEq, Nat.reduceLeDiff, Int.reduceToNat, Int.reduceLT, Int.reduceLE, Int.reduceEq, reduceCtorEq, ↓reduceIte, X16_1, k16_1, w2, b4, w6, b8]
    · replace h := br_t b8 h
      obtain ⟨r11, q9, h⟩ := bnd_some h
      have w10 := e40 a0.ups 0 1000 r11 q9
      try simp -implicitDefEqProofs only [go_sem, Nat.reduceLT, Nat.reduceAdd, Nat.reduceSub, Nat.reduceMul, Nat.reduceEqDiff, Nat.reduceBEq, Nat.reduceLeDiff, Int.reduceToNat, Int.reduceLT, Int.reduceLE, Int.reduceEq, reduceCtorEq, ↓reduceIte] at w10
      cases h
      simp -implicitDefEqProofs only [go_sem, Nat.reduceLT, Nat.reduceAdd, Nat.reduceSub, Nat.reduceMul, Nat.reduceEqDiff, Nat.reduceBEq, Nat.reduceLeDiff, Int.reduceToNat, Int.reduceLT, Int.reduceLE, Int.reduceEq, reduceCtorEq, ↓reduceIte, X16_1, k16_1, w2, b4, w6, b8, w10]
def X16_2 (p16 : Bool) (p17 : Bool) (p18 : Bool) (a0 : Session) (o : Bool) : Ex × Fr × St :=
  (.normal, frOf 43 (upd (upd (upd anyF 1 (.ptr 0 0 0)) 3 (.bool o)) 4 (.bool p17)), [some ⟨.box, 5, [[.int .i64 a0.state, .int .i64 a0.hold, .int .i64 a0.left, .int .i64 a0.quiet, .int .i64 a0.ups]]⟩])
theorem e16_2 (p16 : Bool) (p17 : Bool) (p18 : Bool) (a0 : Session) (o : Bool) (h : m16_2 p16 p18 a0 = some o) : evCL T 0 k16_2 (frOf 43 (upd (upd (upd (upd anyF 1 (.ptr 0 0 0)) 3 (.bool p16)) 4 (.bool p17)) 29 (.bool p18))) [some ⟨.box, 5, [[.int .i64 a0.state, .int .i64 a0.hold, .int .i64 a0.left, .int .i64 a0.quiet, .int .i64 a0.ups]]⟩] = some (X16_2 p16 p17 p18 a0 o) := by
  unfold m16_2 at h
  try simp -implicitDefEqProofs only [go_sem, Nat.reduceLT, Nat.reduceAdd, Nat.reduceSub, Nat.reduceMul, Nat.reduceEqDiff, Nat.reduceBEq, Nat.reduceLeDiff, Int.reduceToNat, Int.reduceLT, Int.reduceLE, Int.reduceEq, reduceCtorEq, ↓reduceIte, X16_2, k16_2]
  cases b19 : (p18 : Bool)
  · replace h := br_f b19 h
    cases h
    simp -implicitDefEqProofs only [go_sem, Nat.reduceLT, Nat.reduceAdd, Nat.reduceSub, Nat.reduceMul, Nat.reduceEqDiff, Nat.reduceBEq, Nat.reduceLeDiff, Int.reduceToNat, Int.reduceLT, Int.reduceLE, Int.reduceEq, reduceCtorEq, ↓reduceIte, X16_2, k16_2, b19]
  · replace h := br_t b19 h
    obtain ⟨r22, q20, h⟩ := bnd_some h
    have w21 := e40 a0.left 1 90 r22 q20
    try simp -implicitDefEqProofs only [go_sem, Nat.reduceLT, Nat.reduceAdd, Nat.reduceSub, Nat.reduceMul, Nat.reduceEqDiff, Nat.reduceBEq, Nat.reduceLeDiff, Int.reduceToNat, Int.reduceLT, Int.reduceLE, Int.reduceEq, reduceCtorEq, ↓reduceIte] at w21
    cases h
    simp -implicitDefEqProofs only [go_sem, Nat.reduceLT, Nat.reduceAdd, Nat.reduceSub, Nat.reduceMul, Nat.reduceEqDiff, Nat.reduceBEq, Nat.reduceLeDiff, Int.reduceToNat, Int.reduceLT, Int.reduceLE, Int.reduceEq, reduceCtorEq, ↓reduceIte, X16_2, k16_2, b19, w21]
def X16_3 (v25 : Bool) (p26 : Bool) (p27 : Bool) (a0 : Session) (o : Bool) : Ex × Fr × St :=
  (.normal, frOf 43 (upd (upd anyF 3 (.bool v25)) 4 (.bool o)), [])
theorem e16_3 (v25 : Bool) (p26 : Bool) (p27 : Bool) (a0 : Session) (o : Bool) (h : m16_3 p26 p27 a0 = some o) : evCL T 0 k16_3 (frOf 43 (upd (upd (upd (upd anyF 1 (.ptr 0 0 0)) 3 (.bool v25)) 4 (.bool p26)) 35 (.bool p27))) [some ⟨.box, 5, [[.int .i64 a0.state, .int .i64 a0.hold, .int .i64 a0.left, .int .i64 a0.quiet, .int .i64 a0.ups]]⟩] = some (X16_3 v25 p26 p27 a0 o) := by
  unfold m16_3 at h
  try simp -implicitDefEqProofs only [go_sem, Nat.reduceLT, Nat.reduceAdd, Nat.reduceSub, Nat.reduceMul, Nat.reduceEqDiff, Nat.reduceBEq, Nat.reduceLeDiff, Int.reduceToNat, Int.reduceLT, Int.reduceLE, Int.reduceEq, reduceCtorEq, ↓reduceIte, X16_3, k16_3]
  cases b28 : (p27 : Bool)
  · replace h := br_f b28 h
    cases h
    simp -implicitDefEqProofs only [go_sem, Nat.reduceLT, Nat.reduceAdd, Nat.reduceSub, Nat.reduceMul, Nat.reduceEqDiff, Nat.reduceBEq, Nat.reduceLeDiff, Int.reduceToNat, Int.reduceLT, Int.reduceLE, Int.reduceEq, reduceCtorEq, ↓reduceIte, X16_3, k16_3, b28]
  · replace h := br_t b28 h
    obtain ⟨r31, q29, h⟩ := bnd_some h
    have w30 := e40 a0.quiet 1 30 r31 q29
    try simp -implicitDefEqProofs only [go_sem, Nat.reduceLT, Nat.reduceAdd, Nat.reduceSub, Nat.reduceMul, Nat.reduceEqDiff, Nat.reduceBEq, Nat.reduceLeDiff, Int.reduceToNat, Int.reduceLT, Int.reduceLE, Int.reduceEq, reduceCtorEq, ↓reduceIte] at w30
    cases h
    simp -implicitDefEqProofs only [go_sem, Nat.reduceLT, Nat.reduceAdd, Nat.reduceSub, Nat.reduceMul, Nat.reduceEqDiff, Nat.reduceBEq, Nat.reduceLeDiff, Int.reduceToNat, Int.reduceLT, Int.reduceLE, Int.reduceEq, reduceCtorEq, ↓reduceIte, X16_3, k16_3, b28, w30]
def X16_4 (v25 : Bool) (v34 : Bool) (o : Bool) : Ex × Fr × St :=
  (.normal, frOf 43 (upd anyF 2 (.bool o)), [])
theorem e16_4 (v25 : Bool) (v34 : Bool) (o : Bool) (h : m16_4 v25 v34 = some o) : evCL T 0 k16_4 (frOf 43 (upd (upd anyF 3 (.bool v25)) 4 (.bool v34))) [] = some (X16_4 v25 v34 o) := by
  unfold m16_4 at h
  try simp -implicitDefEqProofs only [go_sem, Nat.reduceLT, Nat.reduceAdd, Nat.reduceSub, Nat.reduceMul, Nat.reduceEqDiff, Nat.reduceBEq, Nat.reduceLeDiff, Int.reduceToNat, Int.reduceLT, Int.reduceLE, Int.reduceEq, reduceCtorEq, ↓reduceIte, X16_4, k16_4]
  cases b35 : (v25 : Bool)
  · replace h := br_f b35 h
    cases h
    simp -implicitDefEqProofs only [go_sem, Nat.reduceLT, Nat.reduceAdd, Nat.reduceSub, Nat.reduceMul, Nat.reduceEqDiff, Nat.reduceBEq, Nat.reduceLeDiff, Int.reduceToNat, Int.reduceLT, Int.reduceLE, Int.reduceEq, reduceCtorEq, ↓reduceIte, X16_4, k16_4, b35]
  · replace h := br_t b35 h
    cases h
    simp -implicitDefEqProofs only [go_sem, Nat.reduceLT, Nat.reduceAdd, Nat.reduceSub, Nat.reduceMul, Nat.reduceEqDiff, Nat.reduceBEq, Nat.reduceLeDiff, Int.reduceToNat, Int.reduceLT, Int.reduceLE, Int.reduceEq, reduceCtorEq, ↓reduceIte, X16_4, k16_4, b35]
theorem call16 (args : List AV) (S : St) : evCall T (evFL T) 16 args S = lendC (evFL T 16) S (lendAll S [[0, 0, 0, 0, 0]] args) := evCall0 fn16 rfl rfl args S
theorem callz16 (args : List AV) (S : St) : evCallFz T (evFL T) 16 args S = lendZ (evFL T 16) S [[0]] (lendAll S [[0, 0, 0, 0, 0]] args) := evCallFz0 fn16 rfl rfl args S
attribute [go_sem] call16 callz16
theorem e16 (a0 : Session) (r : Bool) (h : m16 a0 = some r) : evFL T 16 [.agg [.int .i64 a0.state, .int .i64 a0.hold, .int .i64 a0.left, .int .i64 a0.quiet, .int .i64 a0.ups]] [] = some (.bool r, []) := by
  unfold m16 at h
  rw [evFL_at fn16 (Nat.le_of_ble_eq_true rfl) rfl (.inr rfl)]
  obtain ⟨v14, q12, h⟩ := bnd_some h
  have w13 := e16_1 a0 v14 q12
  simp only [X16_1] at w13
  try simp -implicitDefEqProofs only [go_sem, Nat.reduceLT, Nat.reduceAdd, Nat.reduceSub, Nat.reduceMul, Nat.reduceEqDiff, Nat.reduceBEq, Nat.reduceLeDiff, Int.reduceToNat, Int.reduceLT, Int.reduceLE, Int.reduceEq, reduceCtorEq, ↓reduceIte] at w13
  try simp -implicitDefEqProofs only [go_sem, Nat.reduceLT, Nat.reduceAdd, Nat.reduceSub, Nat.reduceMul, Nat.reduceEqDiff, Nat.reduceBEq, Nat.reduceLeDiff, Int.reduceToNat, Int.reduceLT, Int.reduceLE, Int.reduceEq, reduceCtorEq, ↓reduceIte, i16, c16, w13]
  cases b15 : (v14 : Bool)
  · replace h := br_f b15 h
    obtain ⟨v25, q23, h⟩ := bnd_some h
    have w24 := e16_2 (eqI a0.left 0) (eqI a0.quiet 0) (leI 2 a0.state) a0 v25 q23
    simp only [X16_2] at w24
    try simp -implicitDefEqProofs only [go_sem, Nat.reduceLT, Nat.reduceAdd, Nat.reduceSub, Nat.reduceMul, Nat.reduceEqDiff, Nat.reduceBEq, Nat.reduceLeDiff, Int.reduceToNat, Int.reduceLT, Int.reduceLE, Int.reduceEq, reduceCtorEq, ↓reduceIte] at w24
    obtain ⟨v34, q32, h⟩ := bnd_some h
    have w33 := e16_3 v25 (eqI a0.quiet 0) (leI 3 a0.state) a0 v34 q32
    simp only [X16_3] at w33
    try simp -implicitDefEqProofs only [go_sem, Nat.reduceLT, Nat.reduceAdd, Nat.reduceSub, Nat.reduceMul, Nat.reduceEqDiff, Nat.reduceBEq, Nat.reduceLeDiff, Int.reduceToNat, Int.reduceLT, Int.reduceLE, Int.reduceEq, reduceCtorEq, ↓reduceIte] at w33
    obtain ⟨v38, q36, h⟩ := bnd_some h
    have w37 := e16_4 v25 v34 v38 q36
    simp only [X16_4] at w37
    try simp -implicitDefEqProofs only [go_sem, Nat.reduceLT, Nat.reduceAdd, Nat.reduceSub, Nat.reduceMul, Nat.reduceEqDiff, Nat.reduceBEq, Nat.reduceLeDiff, Int.reduceToNat, Int.reduceLT, Int.reduceLE, Int.reduceEq, reduceCtorEq, ↓reduceIte] at w37
    cases h
    simp -implicitDefEqProofs only [go_sem, Nat.reduceLT, Nat.reduceAdd, Nat.reduceSub, Nat.reduceMul, Nat.reduceEqDiff, Nat.reduceBEq, Nat.reduceLeDiff, Int.reduceToNat, Int.reduceLT, Int.reduceLE, Int.reduceEq, reduceCtorEq, ↓reduceIte, i16, c16, w13, b15, w24, w33, w37]
  · replace h := br_t b15 h
    cases h
    simp -implicitDefEqProofs only [go_sem, Nat.reduceLT, Nat.reduceAdd, Nat.reduceSub, Nat.reduceMul, Nat.reduceEqDiff, Nat.reduceBEq, Nat.reduceLeDiff, Int.reduceToNat, Int.reduceLT, Int.reduceLE, Int.reduceEq, reduceCtorEq, ↓reduceIte, i16, c16, w13, b15]
-- f18 impl.IsUp
theorem call18 (args : List AV) (S : St) : evCall T (evFL T) 18 args S = lendC (evFL T 18) S (lendAll S [[0, 0, 0, 0, 0]] args) := evCall0 fn18 rfl rfl args S
theorem callz18 (args : List AV) (S : St) : evCallFz T (evFL T) 18 args S = lendZ (evFL T 18) S [[0], [0]] (lendAll S [[0, 0, 0, 0, 0]] args) := evCallFz0 fn18 rfl rfl args S
attribute [go_sem] call18 callz18
theorem e18 (a0 : Session) (r : (Bool × Bool)) (h : m18 a0 = some r) : evFL T 18 [.agg [.int .i64 a0.state, .int .i64 a0.hold, .int .i64 a0.left, .int .i64 a0.quiet, .int .i64 a0.ups]] [] = some (.tup [.bool r.1, .bool r.2], []) := by
  unfold m18 at h
  rw [evFL_at fn18 (Nat.le_of_ble_eq_true rfl) rfl (.inr rfl)]
  obtain ⟨r3, q1, h⟩ := bnd_some h
  have w2 := e16 a0 r3 q1
  try simp -implicitDefEqProofs only [go_sem, Nat.reduceLT, Nat.reduceAdd, Nat.reduceSub, Nat.reduceMul, Nat.reduceEqDiff, Nat.reduceBEq, Nat.reduceLeDiff, Int.reduceToNat, Int.reduceLT, Int.reduceLE, Int.reduceEq, reduceCtorEq, ↓reduceIte] at w2
  try simp -implicitDefEqProofs only [go_sem, Nat.reduceLT, Nat.reduceAdd, Nat.reduceSub, Nat.reduceMul, Nat.reduceEqDiff, Nat.reduceBEq, Nat.reduceLeDiff, Int.reduceToNat, Int.reduceLT, Int.reduceLE, Int.reduceEq, reduceCtorEq, ↓reduceIte, i18, c18, w2]
  cases b4 : (r3 : Bool)
  · replace h := br_f b4 h
    cases h
    simp -implicitDefEqProofs only [go_sem, Nat.reduceLT, Nat.reduceAdd, Nat.reduceSub, Nat.reduceMul, Nat.reduceEqDiff, Nat.reduceBEq, Nat.reduceLeDiff, Int.reduceToNat, Int.reduceLT, Int.reduceLE, Int.reduceEq, reduceCtorEq, ↓reduceIte, i18, c18, w2, b4]
  · replace h := br_t b4 h
    cases h
    simp -implicitDefEqProofs only [go_sem, Nat.reduceLT, Nat.reduceAdd, Nat.reduceSub, Nat.reduceMul, Nat.reduceEqDiff, Nat.reduceBEq, Nat.reduceLeDiff, Int.reduceToNat, Int.reduceLT, Int.reduceLE, Int.reduceEq, reduceCtorEq, ↓reduceIte, i18, c18, w2, b4]
-- f21 impl.StepSession
def X21_1 (a0 : Session) (a1 : Evt) (p1 : Session) (o : Bool) : Ex × Fr × St :=
  (.normal, frOf 26 (upd (upd (upd (upd anyF 2 (.ptr 0 0 0)) 3 (.ptr 1 0 0)) 4 (.ptr 2 0 0)) 16 (.bool o)), [some ⟨.box, 5, [[.int .i64 a0.state, .int .i64 a0.hold, .int .i64 a0.left, .int .i64 a0.quiet, .int .i64 a0.ups]]⟩, some ⟨.box, 2, [[.int .i64 a1.kind, .int .i64 a1.n]]⟩, some ⟨.box, 5, [[.int .i64 p1.state, .int .i64 p1.hold, .int .i64 p1.left, .int .i64 p1.quiet, .int .i64 p1.ups]]⟩])
theorem e21_1 (a0 : Session) (a1 : Evt) (p1 : Session) (o : Bool) (h : m21_1 a0 a1 = some o) : evCL T 0 k21_1 (frOf 26 (upd (upd (upd anyF 2 (.ptr 0 0 0)) 3 (.ptr 1 0 0)) 4 (.ptr 2 0 0))) [some ⟨.box, 5, [[.int .i64 a0.state, .int .i64 a0.hold, .int .i64 a0.left, .int .i64 a0.quiet, .int .i64 a0.ups]]⟩, some ⟨.box, 2, [[.int .i64 a1.kind, .int .i64 a1.n]]⟩, some ⟨.box, 5, [[.int .i64 p1.state, .int .i64 p1.hold, .int .i64 p1.left, .int .i64 p1.quiet, .int .i64 p1.ups]]⟩] = some (X21_1 a0 a1 p1 o) := by
  unfold m21_1 at h
  obtain ⟨r4, q2, h⟩ := bnd_some h
  have w3 := e16 a0 r4 q2
  try simp -implicitDefEqProofs only [go_sem, Nat.reduceLT, Nat.reduceAdd, Nat.reduceSub, Nat.reduceMul, Nat.reduceEqDiff, Nat.reduceBEq, Nat.reduceLeDiff, Int.reduceToNat, Int.reduceLT, Int.reduceLE, Int.reduceEq, reduceCtorEq, ↓reduceIte] at w3
  try simp -implicitDefEqProofs only [go_sem, Nat.reduceLT, Nat.reduceAdd, Nat.reduceSub, Nat.reduceMul, Nat.reduceEqDiff, Nat.reduceBEq, Nat.reduceLeDiff, Int.reduceToNat, Int.reduceLT, Int.reduceLE, Int.reduceEq, reduceCtorEq, ↓reduceIte, X21_1, k21_1, w3]
  cases b5 : (r4 : Bool)
  · replace h := br_f b5 h
    cases h
    simp -implicitDefEqProofs only [go_sem, Nat.reduceLT, Nat.reduceAdd, Nat.reduceSub, Nat.reduceMul, Nat.reduceEqDiff, Nat.reduceBEq, Nat.reduceLeDiff, Int.reduceToNat, Int.reduceLT, Int.reduceLE, Int.reduceEq, reduceCtorEq, ↓reduceIte, X21_1, k21_1, w3, b5]
  · replace h := br_t b5 h
    obtain ⟨r8, q6, h⟩ := bnd_some h
    have w7 := e43 a1 r8 q6
    try simp -implicitDefEqProofs only [go_sem, Nat.reduceLT, Nat.reduceAdd, Nat.reduceSub, Nat.reduceMul, Nat.reduceEqDiff, Nat.reduceBEq, Nat.reduceLeDiff, Int.reduceToNat, Int.reduceLT, Int.reduceLE, Int.reduceEq, reduceCtorEq, ↓reduceIte] at w7
    cases h
    simp -implicitDefEqProofs only [go_sem, Nat.reduceLT, Nat.reduceAdd, Nat.reduceSub, Nat.reduceMul, Nat.reduceEqDiff, Nat.reduceBEq, Nat.reduceLeDiff, Int.reduceToNat, Int.reduceLT, Int.reduceLE, Int.reduceEq, reduceCtorEq, ↓reduceIte, X21_1, k21_1, w3, b5, w7]
theorem call21 (args : List AV) (S : St) : evCall T (evFL T) 21 args S = lendC (evFL T 21) S (lendAll S [[0, 0, 0, 0, 0], [0, 0]] args) := evCall0 fn21 rfl rfl args S
theorem callz21 (args : List AV) (S : St) : evCallFz T (evFL T) 21 args S = lendZ (evFL T 21) S [[0, 0, 0, 0, 0], [1], [0]] (lendAll S [[0, 0, 0, 0, 0], [0, 0]] args) := evCallFz0 fn21 rfl rfl args S
attribute [go_sem] call21 callz21
theorem e21 (a0 : Session) (a1 : Evt) (r : (Session × (List Int) × Bool)) (h : m21 a0 a1 = some r) : evFL T 21 [.agg [.int .i64 a0.state, .int .i64 a0.hold, .int .i64 a0.left, .int .i64 a0.quiet, .int .i64 a0.ups], .agg [.int .i64 a1.kind, .int .i64 a1.n]] [] = some (.tup [.agg [.int .i64 r.1.state, .int .i64 r.1.hold, .int .i64 r.1.left, .int .i64 r.1.quiet, .int .i64 r.1.ups], .sl 0 0 r.2.1.length, .bool r.2.2], [some ⟨.arr, 1, r.2.1.map encInt⟩]) := by
  unfold m21 at h
  rw [evFL_at fn21 (Nat.le_of_ble_eq_true rfl) rfl (.inr rfl)]
  obtain ⟨v11, q9, h⟩ := bnd_some h
  have w10 := e21_1 a0 a1 (⟨0, 0, 0, 0, 0⟩ : Session) v11 q9
  simp only [X21_1] at w10
  try simp -implicitDefEqProofs only [go_sem, Nat.reduceLT, Nat.reduceAdd, Nat.reduceSub, Nat.reduceMul, Nat.reduceEqDiff, Nat.reduceBEq, Nat.reduceLeDiff, Int.reduceToNat, Int.reduceLT, Int.reduceLE, Int.reduceEq, reduceCtorEq, ↓reduceIte] at w10
  try simp -implicitDefEqProofs only [go_sem, Nat.reduceLT, Nat.reduceAdd, Nat.reduceSub, Nat.reduceMul, Nat.reduceEqDiff, Nat.reduceBEq, Nat.reduceLeDiff, Int.reduceToNat, Int.reduceLT, Int.reduceLE, Int.reduceEq, reduceCtorEq, ↓reduceIte, i21, c21, w10]
  cases b12 : (v11 : Bool)
  · replace h := br_f b12 h
    obtain ⟨⟨r15, r16⟩, q13, h⟩ := bnd_some h
    replace h := sel2_some h
    have w14 := e44 a0 a1 (r15, r16) q13
    try simp -implicitDefEqProofs only [go_sem, Nat.reduceLT, Nat.reduceAdd, Nat.reduceSub, Nat.reduceMul, Nat.reduceEqDiff, Nat.reduceBEq, Nat.reduceLeDiff, Int.reduceToNat, Int.reduceLT, Int.reduceLE, Int.reduceEq, reduceCtorEq, ↓reduceIte] at w14
    cases h
    simp -implicitDefEqProofs only [go_sem, Nat.reduceLT, Nat.reduceAdd, Nat.reduceSub, Nat.reduceMul, Nat.reduceEqDiff, Nat.reduceBEq, Nat.reduceLeDiff, Int.reduceToNat, Int.reduceLT, Int.reduceLE, Int.reduceEq, reduceCtorEq, ↓reduceIte, i21, c21, w10, b12, w14]
  · replace h := br_t b12 h
    cases h
    simp -implicitDefEqProofs only [go_sem, Nat.reduceLT, Nat.reduceAdd, Nat.reduceSub, Nat.reduceMul, Nat.reduceEqDiff, Nat.reduceBEq, Nat.reduceLeDiff, Int.reduceToNat, Int.reduceLT, Int.reduceLE, Int.reduceEq, reduceCtorEq, ↓reduceIte, i21, c21, w10, b12]
-- f59 (*spec.l1Cur).session
def X59_1 (p6 : Bool) (a0 : l1Cur) (r3 : Int) (r4 : Int) (p7 : Session) (r5 : List Evt) (o : (List Evt)) : Ex × Fr × St :=
  (.normal, frOf 43 (upd (upd (upd anyF 0 (.ptr 0 0 0)) 2 (.ptr 1 0 0)) 3 (.sl 2 0 o.length)), [some ⟨.box, 3, [[.ts .imm 1 (a0.code.map encIntu8), .int .i64 r3, .int .u64 r4]]⟩, some ⟨.box, 5, [[.int .i64 p7.state, .int .i64 p7.hold, .int .i64 p7.left, .int .i64 p7.quiet, .int .i64 p7.ups]]⟩, some ⟨.arr, 2, o.map encEvt⟩])
theorem e59_1 (p6 : Bool) (a0 : l1Cur) (r3 : Int) (r4 : Int) (p7 : Session) (r5 : List Evt) (o : (List Evt)) (h : m59_1 p6 r5 = some o) : evCL T 1 k59_1 (frOf 43 (upd (upd (upd (upd anyF 0 (.ptr 0 0 0)) 2 (.ptr 1 0 0)) 3 (.sl 2 0 r5.length)) 11 (.bool p6))) [some ⟨.box, 3, [[.ts .imm 1 (a0.code.map encIntu8), .int .i64 r3, .int .u64 r4]]⟩, some ⟨.box, 5, [[.int .i64 p7.state, .int .i64 p7.hold, .int .i64 p7.left, .int .i64 p7.quiet, .int .i64 p7.ups]]⟩, some ⟨.arr, 2, r5.map encEvt⟩] = some (X59_1 p6 a0 r3 r4 p7 r5 o) := by
  unfold m59_1 at h
  try simp -implicitDefEqProofs only [go_sem, Nat.reduceLT, Nat.reduceAdd, Nat.reduceSub, Nat.reduceMul, Nat.reduceEqDiff, Nat.reduceBEq, Nat.reduceLeDiff, Int.reduceToNat, Int.reduceLT, Int.reduceLE, Int.reduceEq, reduceCtorEq, ↓reduceIte, X59_1, k59_1]
  cases b8 : (p6 : Bool)
  · replace h := br_f b8 h
    cases h
    simp -implicitDefEqProofs only [go_sem, Nat.reduceLT, Nat.reduceAdd, Nat.reduceSub, Nat.reduceMul, Nat.reduceEqDiff, Nat.reduceBEq, Nat.reduceLeDiff, Int.reduceToNat, Int.reduceLT, Int.reduceLE, Int.reduceEq, reduceCtorEq, ↓reduceIte, X59_1, k59_1, b8]
  · replace h := br_t b8 h
    obtain ⟨g9, h⟩ := ck_some h
    try simp -implicitDefEqProofs only [go_sem, Nat.reduceLT, Nat.reduceAdd, Nat.reduceSub, Nat.reduceMul, Nat.reduceEqDiff, Nat.reduceBEq, Nat.reduceLeDiff, Int.reduceToNat, Int.reduceLT, Int.reduceLE, Int.reduceEq, reduceCtorEq, ↓reduceIte] at g9
    have g10 : 0 + 60 ≤ r5.length := by (try simp only [List.length_take, List.length_drop, List.length_append, List.length_set, List.length_cons, List.length_nil]); omega
    have g11 : 60 ≤ r5.length := by (try simp only [List.length_take, List.length_drop, List.length_append, List.length_set, List.length_cons, List.length_nil]); omega
    cases h
    simp -implicitDefEqProofs only [go_sem, Nat.reduceLT, Nat.reduceAdd, Nat.reduceSub, Nat.reduceMul, Nat.reduceEqDiff, Nat.reduceBEq, Nat.reduceLeDiff, Int.reduceToNat, Int.reduceLT, Int.reduceLE, Int.reduceEq, reduceCtorEq, ↓reduceIte, X59_1, k59_1, b8, g9, g10, g11]
def X59_2 (p25 : Bool) (a0 : l1Cur) (r18 : Int) (r19 : Int) (p26 : Session) (r22 : Session) (o : Session) : Ex × Fr × St :=
  (.normal, frOf 43 (upd (upd (upd anyF 0 (.ptr 0 0 0)) 2 (.ptr 1 0 0)) 4 (.ptr 2 0 0)), [some ⟨.box, 3, [[.ts .imm 1 (a0.code.map encIntu8), .int .i64 r18, .int .u64 r19]]⟩, some ⟨.box, 5, [[.int .i64 p26.state, .int .i64 p26.hold, .int .i64 p26.left, .int .i64 p26.quiet, .int .i64 p26.ups]]⟩, some ⟨.box, 5, [[.int .i64 o.state, .int .i64 o.hold, .int .i64 o.left, .int .i64 o.quiet, .int .i64 o.ups]]⟩])
theorem e59_2 (p25 : Bool) (a0 : l1Cur) (r18 : Int) (r19 : Int) (p26 : Session) (r22 : Session) (o : Session) (h : m59_2 p25 r22 = some o) : evCL T 1 k59_2 (frOf 43 (upd (upd (upd (upd anyF 0 (.ptr 0 0 0)) 2 (.ptr 1 0 0)) 4 (.ptr 2 0 0)) 24 (.bool p25))) [some ⟨.box, 3, [[.ts .imm 1 (a0.code.map encIntu8), .int .i64 r18, .int .u64 r19]]⟩, some ⟨.box, 5, [[.int .i64 p26.state, .int .i64 p26.hold, .int .i64 p26.left, .int .i64 p26.quiet, .int .i64 p26.ups]]⟩, some ⟨.box, 5, [[.int .i64 r22.state, .int .i64 r22.hold, .int .i64 r22.left, .int .i64 r22.quiet, .int .i64 r22.ups]]⟩] = some (X59_2 p25 a0 r18 r19 p26 r22 o) := by
  unfold m59_2 at h
  try simp -implicitDefEqProofs only [go_sem, Nat.reduceLT, Nat.reduceAdd, Nat.reduceSub, Nat.reduceMul, Nat.reduceEqDiff, Nat.reduceBEq, Nat.reduceLeDiff, Int.reduceToNat, Int.reduceLT, Int.reduceLE, Int.reduceEq, reduceCtorEq, ↓reduceIte, X59_2, k59_2]
  cases b27 : (p25 : Bool)
  · replace h := br_f b27 h
    cases h
    simp -implicitDefEqProofs only [go_sem, Nat.reduceLT, Nat.reduceAdd, Nat.reduceSub, Nat.reduceMul, Nat.reduceEqDiff, Nat.reduceBEq, Nat.reduceLeDiff, Int.reduceToNat, Int.reduceLT, Int.reduceLE, Int.reduceEq, reduceCtorEq, ↓reduceIte, X59_2, k59_2, b27]
  · replace h := br_t b27 h
    obtain ⟨⟨r30, r31⟩, q28, h⟩ := bnd_some h
    replace h := sel2_some h
    have w29 := e11 9 (r30, r31) q28
    try simp -implicitDefEqProofs only [go_sem, Nat.reduceLT, Nat.reduceAdd, Nat.reduceSub, Nat.reduceMul, Nat.reduceEqDiff, Nat.reduceBEq, Nat.reduceLeDiff, Int.reduceToNat, Int.reduceLT, Int.reduceLE, Int.reduceEq, reduceCtorEq, ↓reduceIte] at w29
    cases h
    simp -implicitDefEqProofs only [go_sem, Nat.reduceLT, Nat.reduceAdd, Nat.reduceSub, Nat.reduceMul, Nat.reduceEqDiff, Nat.reduceBEq, Nat.reduceLeDiff, Int.reduceToNat, Int.reduceLT, Int.reduceLE, Int.reduceEq, reduceCtorEq, ↓reduceIte, X59_2, k59_2, b27, w29]
def X59_4 (p48 : Bool) (a0 : l1Cur) (r38 : Int) (r39 : Int) (p41 : Session) (v34 : Session) (o : (Int × Int × Session)) : Ex × Fr × St :=
  (.normal, frOf 43 (upd (upd anyF 2 (.ptr 1 0 0)) 4 (.ptr 2 0 0)), [some ⟨.box, 3, [[.ts .imm 1 (a0.code.map encIntu8), .int .i64 o.1, .int .u64 o.2.1]]⟩, some ⟨.box, 5, [[.int .i64 p41.state, .int .i64 p41.hold, .int .i64 p41.left, .int .i64 p41.quiet, .int .i64 p41.ups]]⟩, some ⟨.box, 5, [[.int .i64 o.2.2.state, .int .i64 o.2.2.hold, .int .i64 o.2.2.left, .int .i64 o.2.2.quiet, .int .i64 o.2.2.ups]]⟩])
theorem e59_4 (p48 : Bool) (a0 : l1Cur) (r38 : Int) (r39 : Int) (p41 : Session) (v34 : Session) (o : (Int × Int × Session)) (h : m59_4 p48 a0 r38 r39 v34 = some o) : evCL T 1 k59_4 (frOf 43 (upd (upd (upd (upd anyF 0 (.ptr 0 0 0)) 2 (.ptr 1 0 0)) 4 (.ptr 2 0 0)) 36 (.bool p48))) [some ⟨.box, 3, [[.ts .imm 1 (a0.code.map encIntu8), .int .i64 r38, .int .u64 r39]]⟩, some ⟨.box, 5, [[.int .i64 p41.state, .int .i64 p41.hold, .int .i64 p41.left, .int .i64 p41.quiet, .int .i64 p41.ups]]⟩, some ⟨.box, 5, [[.int .i64 v34.state, .int .i64 v34.hold, .int .i64 v34.left, .int .i64 v34.quiet, .int .i64 v34.ups]]⟩] = some (X59_4 p48 a0 r38 r39 p41 v34 o) := by
  unfold m59_4 at h
  try simp -implicitDefEqProofs only [go_sem, Nat.reduceLT, Nat.reduceAdd, Nat.reduceSub, Nat.reduceMul, Nat.reduceEqDiff, Nat.reduceBEq, Nat.reduceLeDiff, Int.reduceToNat, Int.reduceLT, Int.reduceLE, Int.reduceEq, reduceCtorEq, ↓reduceIte, X59_4, k59_4]
  cases b49 : (p48 : Bool)
  · replace h := br_f b49 h
    cases h
    simp -implicitDefEqProofs only [go_sem, Nat.reduceLT, Nat.reduceAdd, Nat.reduceSub, Nat.reduceMul, Nat.reduceEqDiff, Nat.reduceBEq, Nat.reduceLeDiff, Int.reduceToNat, Int.reduceLT, Int.reduceLE, Int.reduceEq, reduceCtorEq, ↓reduceIte, X59_4, k59_4, b49]
  · replace h := br_t b49 h
    obtain ⟨⟨r52, r53, r54⟩, q50, h⟩ := bnd_some h
    replace h := sel3_some h
    have w51 := e57 (⟨a0.code, r38, r39⟩ : l1Cur) [0, 1, 91] (r52, r53, r54) q50
    try simp -implicitDefEqProofs only [go_sem, Nat.reduceLT, Nat.reduceAdd, Nat.reduceSub, Nat.reduceMul, Nat.reduceEqDiff, Nat.reduceBEq, Nat.reduceLeDiff, Int.reduceToNat, Int.reduceLT, Int.reduceLE, Int.reduceEq, reduceCtorEq, ↓reduceIte] at w51
    cases h
    simp -implicitDefEqProofs only [go_sem, Nat.reduceLT, Nat.reduceAdd, Nat.reduceSub, Nat.reduceMul, Nat.reduceEqDiff, Nat.reduceBEq, Nat.reduceLeDiff, Int.reduceToNat, Int.reduceLT, Int.reduceLE, Int.reduceEq, reduceCtorEq, ↓reduceIte, X59_4, k59_4, b49, w51]
def X59_3 (r37 : Int) (p40 : Bool) (a0 : l1Cur) (r38 : Int) (r39 : Int) (p41 : Session) (v34 : Session) (o : (Int × Int × Session)) : Ex × Fr × St :=
  (.normal, frOf 43 (upd (upd anyF 2 (.ptr 1 0 0)) 4 (.ptr 2 0 0)), [some ⟨.box, 3, [[.ts .imm 1 (a0.code.map encIntu8), .int .i64 o.1, .int .u64 o.2.1]]⟩, some ⟨.box, 5, [[.int .i64 p41.state, .int .i64 p41.hold, .int .i64 p41.left, .int .i64 p41.quiet, .int .i64 p41.ups]]⟩, some ⟨.box, 5, [[.int .i64 o.2.2.state, .int .i64 o.2.2.hold, .int .i64 o.2.2.left, .int .i64 o.2.2.quiet, .int .i64 o.2.2.ups]]⟩])
theorem e59_3 (r37 : Int) (p40 : Bool) (a0 : l1Cur) (r38 : Int) (r39 : Int) (p41 : Session) (v34 : Session) (o : (Int × Int × Session)) (h : m59_3 r37 p40 a0 r38 r39 v34 = some o) : evCL T 1 k59_3 (frOf 43 (upd (upd (upd (upd (upd anyF 0 (.ptr 0 0 0)) 2 (.ptr 1 0 0)) 4 (.ptr 2 0 0)) 30 (.int .i64 r37)) 31 (.bool p40))) [some ⟨.box, 3, [[.ts .imm 1 (a0.code.map encIntu8), .int .i64 r38, .int .u64 r39]]⟩, some ⟨.box, 5, [[.int .i64 p41.state, .int .i64 p41.hold, .int .i64 p41.left, .int .i64 p41.quiet, .int .i64 p41.ups]]⟩, some ⟨.box, 5, [[.int .i64 v34.state, .int .i64 v34.hold, .int .i64 v34.left, .int .i64 v34.quiet, .int .i64 v34.ups]]⟩] = some (X59_3 r37 p40 a0 r38 r39 p41 v34 o) := by
  unfold m59_3 at h
  try simp -implicitDefEqProofs only [go_sem, Nat.reduceLT, Nat.reduceAdd, Nat.reduceSub, Nat.reduceMul, Nat.reduceEqDiff, Nat.reduceBEq, Nat.reduceLeDiff, Int.reduceToNat, Int.reduceLT, Int.reduceLE, Int.reduceEq, reduceCtorEq, ↓reduceIte, X59_3, k59_3]
  cases b42 : (p40 : Bool)
  · replace h := br_f b42 h
    obtain ⟨⟨v57, v58, v59⟩, q55, h⟩ := bnd_some h
    replace h := sel3_some h
    have w56 := e59_4 (eqI r37 1) a0 r38 r39 p41 v34 (v57, v58, v59) q55
    simp only [X59_4] at w56
    try simp -implicitDefEqProofs only [go_sem, Nat.reduceLT, Nat.reduceAdd, Nat.reduceSub, Nat.reduceMul, Nat.reduceEqDiff, Nat.reduceBEq, Nat.reduceLeDiff, Int.reduceToNat, Int.reduceLT, Int.reduceLE, Int.reduceEq, reduceCtorEq, ↓reduceIte] at w56
    cases h
    simp -implicitDefEqProofs only [go_sem, Nat.reduceLT, Nat.reduceAdd, Nat.reduceSub, Nat.reduceMul, Nat.reduceEqDiff, Nat.reduceBEq, Nat.reduceLeDiff, Int.reduceToNat, Int.reduceLT, Int.reduceLE, Int.reduceEq, reduceCtorEq, ↓reduceIte, X59_3, k59_3, b42, w56]
  · replace h := br_t b42 h
    obtain ⟨⟨r45, r46, r47⟩, q43, h⟩ := bnd_some h
    replace h := sel3_some h
    have w44 := e55 (⟨a0.code, r38, r39⟩ : l1Cur) 6 (r45, r46, r47) q43
    try simp -implicitDefEqProofs only [go_sem, Nat.reduceLT, Nat.reduceAdd, Nat.reduceSub, Nat.reduceMul, Nat.reduceEqDiff, Nat.reduceBEq, Nat.reduceLeDiff, Int.reduceToNat, Int.reduceLT, Int.reduceLE, Int.reduceEq, reduceCtorEq, ↓reduceIte] at w44
    cases h
    simp -implicitDefEqProofs only [go_sem, Nat.reduceLT, Nat.reduceAdd, Nat.reduceSub, Nat.reduceMul, Nat.reduceEqDiff, Nat.reduceBEq, Nat.reduceLeDiff, Int.reduceToNat, Int.reduceLT, Int.reduceLE, Int.reduceEq, reduceCtorEq, ↓reduceIte, X59_3, k59_3, b42, w44]
theorem call59 (args : List AV) (S : St) : evCall T (evFL T) 59 args S = c3A true (evFL T 59) (rawAll S [[0]] args) := evCall3_a fn59 rfl args S
attribute [go_sem] call59
theorem e59 (a0 : l1Cur) (r : (Int × Int × Session)) (h : m59 a0 = some r) : evFL T 59 [.ptr 0 0 0] [some ⟨.box, 3, [[.ts .imm 1 (a0.code.map encIntu8), .int .i64 a0.at_, .int .u64 a0.seed]]⟩] = some (.agg [.int .i64 r.2.2.state, .int .i64 r.2.2.hold, .int .i64 r.2.2.left, .int .i64 r.2.2.quiet, .int .i64 r.2.2.ups], [some ⟨.box, 3, [[.ts .imm 1 (a0.code.map encIntu8), .int .i64 r.1, .int .u64 r.2.1]]⟩, some ⟨.box, 5, [[.int .i64 r.2.2.state, .int .i64 r.2.2.hold, .int .i64 r.2.2.left, .int .i64 r.2.2.quiet, .int .i64 r.2.2.ups]]⟩]) := by
  unfold m59 at h
  rw [evFL_at fn59 (Nat.le_of_ble_eq_true rfl) rfl (.inl rfl)]
  obtain ⟨⟨r3, r4, r5⟩, q1, h⟩ := bnd_some h
  replace h := sel3_some h
  have w2 := e58 a0 (r3, r4, r5) q1
  try simp -implicitDefEqProofs only [go_sem, Nat.reduceLT, Nat.reduceAdd, Nat.reduceSub, Nat.reduceMul, Nat.reduceEqDiff, Nat.reduceBEq, Nat.reduceLeDiff, Int.reduceToNat, Int.reduceLT, Int.reduceLE, Int.reduceEq, reduceCtorEq, ↓reduceIte] at w2
  obtain ⟨v14, q12, h⟩ := bnd_some h
  have w13 := e59_1 (ltI 60 (↑r5.length : Int)) a0 r3 r4 (⟨0, 0, 0, 0, 0⟩ : Session) r5 v14 q12
  simp only [X59_1] at w13
  try simp -implicitDefEqProofs only [go_sem, Nat.reduceLT, Nat.reduceAdd, Nat.reduceSub, Nat.reduceMul, Nat.reduceEqDiff, Nat.reduceBEq, Nat.reduceLeDiff, Int.reduceToNat, Int.reduceLT, Int.reduceLE, Int.reduceEq, reduceCtorEq, ↓reduceIte] at w13
  obtain ⟨⟨r17, r18, r19⟩, q15, h⟩ := bnd_some h
  replace h := sel3_some h
  have w16 := e55 (⟨a0.code, r3, r4⟩ : l1Cur) 20 (r17, r18, r19) q15
  try simp -implicitDefEqProofs only [go_sem, Nat.reduceLT, Nat.reduceAdd, Nat.reduceSub, Nat.reduceMul, Nat.reduceEqDiff, Nat.reduceBEq, Nat.reduceLeDiff, Int.reduceToNat, Int.reduceLT, Int.reduceLE, Int.reduceEq, reduceCtorEq, ↓reduceIte] at w16
  obtain ⟨⟨r22, r23, r24⟩, q20, h⟩ := bnd_some h
  replace h := sel3_some h
  have w21 := e26 (wadd .i64 3 r17) v14 (r22, r23, r24) q20
  try simp -implicitDefEqProofs only [go_sem, Nat.reduceLT, Nat.reduceAdd, Nat.reduceSub, Nat.reduceMul, Nat.reduceEqDiff, Nat.reduceBEq, Nat.reduceLeDiff, Int.reduceToNat, Int.reduceLT, Int.reduceLE, Int.reduceEq, reduceCtorEq, ↓reduceIte] at w21
  obtain ⟨v34, q32, h⟩ := bnd_some h
  have w33 := e59_2 (!r24) a0 r18 r19 (⟨0, 0, 0, 0, 0⟩ : Session) r22 v34 q32
  simp only [X59_2] at w33
  try simp -implicitDefEqProofs only [go_sem, Nat.reduceLT, Nat.reduceAdd, Nat.reduceSub, Nat.reduceMul, Nat.reduceEqDiff, Nat.reduceBEq, Nat.reduceLeDiff, Int.reduceToNat, Int.reduceLT, Int.reduceLE, Int.reduceEq, reduceCtorEq, ↓reduceIte] at w33
  obtain ⟨⟨r37, r38, r39⟩, q35, h⟩ := bnd_some h
  replace h := sel3_some h
  have w36 := e55 (⟨a0.code, r18, r19⟩ : l1Cur) 30 (r37, r38, r39) q35
  try simp -implicitDefEqProofs only [go_sem, Nat.reduceLT, Nat.reduceAdd, Nat.reduceSub, Nat.reduceMul, Nat.reduceEqDiff, Nat.reduceBEq, Nat.reduceLeDiff, Int.reduceToNat, Int.reduceLT, Int.reduceLE, Int.reduceEq, reduceCtorEq, ↓reduceIte] at w36
  obtain ⟨⟨v62, v63, v64⟩, q60, h⟩ := bnd_some h
  replace h := sel3_some h
  have w61 := e59_3 r37 (eqI r37 0) a0 r38 r39 (⟨0, 0, 0, 0, 0⟩ : Session) v34 (v62, v63, v64) q60
  simp only [X59_3] at w61
  try simp -implicitDefEqProofs only [go_sem, Nat.reduceLT, Nat.reduceAdd, Nat.reduceSub, Nat.reduceMul, Nat.reduceEqDiff, Nat.reduceBEq, Nat.reduceLeDiff, Int.reduceToNat, Int.reduceLT, Int.reduceLE, Int.reduceEq, reduceCtorEq, ↓reduceIte] at w61
  cases h
  simp -implicitDefEqProofs only [go_sem, Nat.reduceLT, Nat.reduceAdd, Nat.reduceSub, Nat.reduceMul, Nat.reduceEqDiff, Nat.reduceBEq, Nat.reduceLeDiff, Int.reduceToNat, Int.reduceLT, Int.reduceLE, Int.reduceEq, reduceCtorEq, ↓reduceIte, i59, c59, w2, w13, w16, w21, w33, w36, w61]
-- f37 spec.DrawStepSession
def X37_1 (p11 : Bool) (p12 : Session) (p13 : Evt) (a0 : (List Int)) (r9 : Int) (r10 : Int) (r5 : Session) (p14 : Evt) (o : Evt) : Ex × Fr × St :=
  (.normal, frOf 24 (upd (upd (upd (upd anyF 2 (.ptr 0 0 0)) 3 (.ptr 1 0 0)) 5 (.ptr 2 0 0)) 6 (.ptr 3 0 0)), [some ⟨.box, 5, [[.int .i64 p12.state, .int .i64 p12.hold, .int .i64 p12.left, .int .i64 p12.quiet, .int .i64 p12.ups]]⟩, some ⟨.box, 2, [[.int .i64 p13.kind, .int .i64 p13.n]]⟩, some ⟨.box, 5, [[.int .i64 r5.state, .int .i64 r5.hold, .int .i64 r5.left, .int .i64 r5.quiet, .int .i64 r5.ups]]⟩, some ⟨.box, 2, [[.int .i64 o.kind, .int .i64 o.n]]⟩])
theorem e37_1 (p11 : Bool) (p12 : Session) (p13 : Evt) (a0 : (List Int)) (r9 : Int) (r10 : Int) (r5 : Session) (p14 : Evt) (o : Evt) (h : m37_1 p11 a0 r9 r10 p14 = some o) : evCL T 0 k37_1 (frOf 24 (upd (upd (upd (upd (upd (upd anyF 2 (.ptr 0 0 0)) 3 (.ptr 1 0 0)) 4 (.ptr 2 0 0)) 5 (.ptr 3 0 0)) 6 (.ptr 4 0 0)) 17 (.bool p11))) [some ⟨.box, 5, [[.int .i64 p12.state, .int .i64 p12.hold, .int .i64 p12.left, .int .i64 p12.quiet, .int .i64 p12.ups]]⟩, some ⟨.box, 2, [[.int .i64 p13.kind, .int .i64 p13.n]]⟩, some ⟨.box, 3, [[.ts .imm 1 (a0.map encIntu8), .int .i64 r9, .int .u64 r10]]⟩, some ⟨.box, 5, [[.int .i64 r5.state, .int .i64 r5.hold, .int .i64 r5.left, .int .i64 r5.quiet, .int .i64 r5.ups]]⟩, some ⟨.box, 2, [[.int .i64 p14.kind, .int .i64 p14.n]]⟩] = some (X37_1 p11 p12 p13 a0 r9 r10 r5 p14 o) := by
  unfold m37_1 at h
  try simp -implicitDefEqProofs only [go_sem, Nat.reduceLT, Nat.reduceAdd, Nat.reduceSub, Nat.reduceMul, Nat.reduceEqDiff, Nat.reduceBEq, Nat.reduceLeDiff, Int.reduceToNat, Int.reduceLT, Int.reduceLE, Int.reduceEq, reduceCtorEq, ↓reduceIte, X37_1, k37_1]
  cases b15 : (p11 : Bool)
  · replace h := br_f b15 h
    cases h
    simp -implicitDefEqProofs only [go_sem, Nat.reduceLT, Nat.reduceAdd, Nat.reduceSub, Nat.reduceMul, Nat.reduceEqDiff, Nat.reduceBEq, Nat.reduceLeDiff, Int.reduceToNat, Int.reduceLT, Int.reduceLE, Int.reduceEq, reduceCtorEq, ↓reduceIte, X37_1, k37_1, b15]
  · replace h := br_t b15 h
    obtain ⟨⟨r18, r19, r20⟩, q16, h⟩ := bnd_some h
    replace h := sel3_some h
    have w17 := e57 (⟨a0, r9, r10⟩ : l1Cur) [0, 2, 3, 9, 100, 101] (r18, r19, r20) q16
    try simp -implicitDefEqProofs only [go_sem, Nat.reduceLT, Nat.reduceAdd, Nat.reduceSub, Nat.reduceMul, Nat.reduceEqDiff, Nat.reduceBEq, Nat.reduceLeDiff, Int.reduceToNat, Int.reduceLT, Int.reduceLE, Int.reduceEq, reduceCtorEq, ↓reduceIte] at w17
    cases h
    simp -implicitDefEqProofs only [go_sem, Nat.reduceLT, Nat.reduceAdd, Nat.reduceSub, Nat.reduceMul, Nat.reduceEqDiff, Nat.reduceBEq, Nat.reduceLeDiff, Int.reduceToNat, Int.reduceLT, Int.reduceLE, Int.reduceEq, reduceCtorEq, ↓reduceIte, X37_1, k37_1, b15, w17]
theorem call37 (args : List AV) (S : St) : evCall T (evFL T) 37 args S = lendC (evFL T 37) S (lendAll S [[1]] args) := evCall0 fn37 rfl rfl args S
theorem callz37 (args : List AV) (S : St) : evCallFz T (evFL T) 37 args S = lendZ (evFL T 37) S [[0, 0, 0, 0, 0], [0, 0]] (lendAll S [[1]] args) := evCallFz0 fn37 rfl rfl args S
attribute [go_sem] call37 callz37
theorem e37 (a0 : (List Int)) (r : (Session × Evt)) (h : m37 a0 = some r) : evFL T 37 [.ts .imm 1 (a0.map encIntu8)] [] = some (.tup [.agg [.int .i64 r.1.state, .int .i64 r.1.hold, .int .i64 r.1.left, .int .i64 r.1.quiet, .int .i64 r.1.ups], .agg [.int .i64 r.2.kind, .int .i64 r.2.n]], []) := by
  unfold m37 at h
  rw [evFL_at fn37 (Nat.le_of_ble_eq_true rfl) rfl (.inr rfl)]
  obtain ⟨⟨r3, r4, r5⟩, q1, h⟩ := bnd_some h
  replace h := sel3_some h
  have w2 := e59 (⟨a0, 0, 0⟩ : l1Cur) (r3, r4, r5) q1
  try simp -implicitDefEqProofs only [go_sem, Nat.reduceLT, Nat.reduceAdd, Nat.reduceSub, Nat.reduceMul, Nat.reduceEqDiff, Nat.reduceBEq, Nat.reduceLeDiff, Int.reduceToNat, Int.reduceLT, Int.reduceLE, Int.reduceEq, reduceCtorEq, ↓reduceIte] at w2
  obtain ⟨⟨r8, r9, r10⟩, q6, h⟩ := bnd_some h
  replace h := sel3_some h
  have w7 := e55 (⟨a0, r3, r4⟩ : l1Cur) 12 (r8, r9, r10) q6
  try simp -implicitDefEqProofs only [go_sem, Nat.reduceLT, Nat.reduceAdd, Nat.reduceSub, Nat.reduceMul, Nat.reduceEqDiff, Nat.reduceBEq, Nat.reduceLeDiff, Int.reduceToNat, Int.reduceLT, Int.reduceLE, Int.reduceEq, reduceCtorEq, ↓reduceIte] at w7
  obtain ⟨v23, q21, h⟩ := bnd_some h
  have w22 := e37_1 (eqI r8 5) (⟨0, 0, 0, 0, 0⟩ : Session) (⟨0, 0⟩ : Evt) a0 r9 r10 r5 (⟨r8, 0⟩ : Evt) v23 q21
  simp only [X37_1] at w22
  try simp -implicitDefEqProofs only [go_sem, Nat.reduceLT, Nat.reduceAdd, Nat.reduceSub, Nat.reduceMul, Nat.reduceEqDiff, Nat.reduceBEq, Nat.reduceLeDiff, Int.reduceToNat, Int.reduceLT, Int.reduceLE, Int.reduceEq, reduceCtorEq, ↓reduceIte] at w22
  cases h
  simp -implicitDefEqProofs only [go_sem, Nat.reduceLT, Nat.reduceAdd, Nat.reduceSub, Nat.reduceMul, Nat.reduceEqDiff, Nat.reduceBEq, Nat.reduceLeDiff, Int.reduceToNat, Int.reduceLT, Int.reduceLE, Int.reduceEq, reduceCtorEq, ↓reduceIte, i37, c37, w2, w7, w22]
-- f14 spec.GoodSession
def X14_1 (a0 : Session) (o : Bool) : Ex × Fr × St :=
  (.normal, frOf 50 (upd (upd anyF 1 (.ptr 0 0 0)) 18 (.bool o)), [some ⟨.box, 5, [[.int .i64 a0.state, .int .i64 a0.hold, .int .i64 a0.left, .int .i64 a0.quiet, .int .i64 a0.ups]]⟩])
theorem e14_1 (a0 : Session) (o : Bool) (h : m14_1 a0 = some o) : evCL T 0 k14_1 (frOf 50 (upd anyF 1 (.ptr 0 0 0))) [some ⟨.box, 5, [[.int .i64 a0.state, .int .i64 a0.hold, .int .i64 a0.left, .int .i64 a0.quiet, .int .i64 a0.ups]]⟩] = some (X14_1 a0 o) := by
  unfold m14_1 at h
  obtain ⟨r3, q1, h⟩ := bnd_some h
  have w2 := e39 a0.state 0 4 r3 q1
  try simp -implicitDefEqProofs only [go_sem, Nat.reduceLT, Nat.reduceAdd, Nat.reduceSub, Nat.reduceMul, Nat.reduceEqDiff, Nat.reduceBEq, Nat.reduceLeDiff, Int.reduceToNat, Int.reduceLT, Int.reduceLE, Int.reduceEq, reduceCtorEq, ↓reduceIte] at w2
  try simp -implicitDefEqProofs only [go_sem, Nat.reduceLT, Nat.reduceAdd, Nat.reduceSub, Nat.reduceMul, Nat.reduceEqDiff, Nat.reduceBEq, Nat.reduceLeDiff, Int.reduceToNat, Int.reduceLT, Int.reduceLE, Int.reduceEq, reduceCtorEq, ↓reduceIte, X14_1, k14_1, w2]
  cases b4 : (r3 : Bool)
  · replace h := br_f b4 h
    cases h
    simp -implicitDefEqProofs only [go_sem, Nat.reduceLT, Nat.reduceAdd, Nat.reduceSub, Nat.reduceMul, Nat.reduceEqDiff, Nat.reduceBEq, Nat.reduceLeDiff, Int.reduceToNat, Int.reduceLT, Int.reduceLE, Int.reduceEq, reduceCtorEq, ↓reduceIte, X14_1, k14_1, w2, b4]
  · replace h := br_t b4 h
    obtain ⟨r7, q5, h⟩ := bnd_some h
    have w6 := e39 a0.hold 3 90 r7 q5
    try simp -implicitDefEqProofs only [go_sem, Nat.reduceLT, Nat.reduceAdd, Nat.reduceSub, Nat.reduceMul, Nat.reduceEqDiff, Nat.reduceBEq, Nat.reduceLeDiff, Int.reduceToNat, Int.reduceLT, Int.reduceLE, Int.reduceEq, reduceCtorEq, ↓reduceIte] at w6
    try simp -implicitDefEqProofs only [go_sem, Nat.reduceLT, Nat.reduceAdd, Nat.reduceSub, Nat.reduceMul, Nat.reduceEqDiff, Nat.reduceBEq, Nat.reduceLeDiff, Int.reduceToNat, Int.reduceLT, Int.reduceLE, Int.reduceEq, reduceCtorEq, ↓reduceIte, X14_1, k14_1, w2, b4, w6]
    cases b8 : (r7 : Bool)
    · replace h := br_f b8 h
      cases h
      simp -implicitDefEqProofs only [go_sem, Nat.reduceLT, Nat.reduceAdd, Nat.reduceSub, Nat.reduceMul, Nat.reduceEqDiff, Nat.reduceBEq, Nat.reduceLeDiff, Int.reduceToNat, Int.reduceLT, Int.reduceLE, Int.reduceEq, reduceCtorEq, ↓reduceIte, X14_1, k14_1, w2, b4, w6, b8]
    · replace h := br_t b8 h
      obtain ⟨r11, q9, h⟩ := bnd_some h
      have w10 := e39 a0.ups 0 1000 r11 q9
      try simp -implicitDefEqProofs only [go_sem, Nat.reduceLT, Nat.reduceAdd, Nat.reduceSub, Nat.reduceMul, Nat.reduceEqDiff, Nat.reduceBEq, Nat.reduceLeDiff, Int.reduceToNat, Int.reduceLT, Int.reduceLE, Int.reduceEq, reduceCtorEq, ↓reduceIte] at w10
      cases h
      simp -implicitDefEqProofs only [go_sem, Nat.reduceLT, Nat.reduceAdd, Nat.reduceSub, Nat.reduceMul, Nat.reduceEqDiff, Nat.reduceBEq, Nat.reduceLeDiff, Int.reduceToNat, Int.reduceLT, Int.reduceLE, Int.reduceEq, reduceCtorEq, ↓reduceIte, X14_1, k14_1, w2, b4, w6, b8, w10]
def X14_2 (a0 : Session) (p16 : Bool) (o : Bool) : Ex × Fr × St :=
  (.normal, frOf 50 (upd (upd (upd anyF 1 (.ptr 0 0 0)) 20 (.int .i64 a0.state)) 21 (.bool o)), [some ⟨.box, 5, [[.int .i64 a0.state, .int .i64 a0.hold, .int .i64 a0.left, .int .i64 a0.quiet, .int .i64 a0.ups]]⟩])
theorem e14_2 (a0 : Session) (p16 : Bool) (o : Bool) (h : m14_2 a0 p16 = some o) : evCL T 0 k14_2 (frOf 50 (upd (upd (upd anyF 1 (.ptr 0 0 0)) 20 (.int .i64 a0.state)) 21 (.bool p16))) [some ⟨.box, 5, [[.int .i64 a0.state, .int .i64 a0.hold, .int .i64 a0.left, .int .i64 a0.quiet, .int .i64 a0.ups]]⟩] = some (X14_2 a0 p16 o) := by
  unfold m14_2 at h
  try simp -implicitDefEqProofs only [go_sem, Nat.reduceLT, Nat.reduceAdd, Nat.reduceSub, Nat.reduceMul, Nat.reduceEqDiff, Nat.reduceBEq, Nat.reduceLeDiff, Int.reduceToNat, Int.reduceLT, Int.reduceLE, Int.reduceEq, reduceCtorEq, ↓reduceIte, X14_2, k14_2]
  cases b17 : (p16 : Bool)
  · replace h := br_f b17 h
    cases h
    simp -implicitDefEqProofs only [go_sem, Nat.reduceLT, Nat.reduceAdd, Nat.reduceSub, Nat.reduceMul, Nat.reduceEqDiff, Nat.reduceBEq, Nat.reduceLeDiff, Int.reduceToNat, Int.reduceLT, Int.reduceLE, Int.reduceEq, reduceCtorEq, ↓reduceIte, X14_2, k14_2, b17]
  · replace h := br_t b17 h
    cases h
    simp -implicitDefEqProofs only [go_sem, Nat.reduceLT, Nat.reduceAdd, Nat.reduceSub, Nat.reduceMul, Nat.reduceEqDiff, Nat.reduceBEq, Nat.reduceLeDiff, Int.reduceToNat, Int.reduceLT, Int.reduceLE, Int.reduceEq, reduceCtorEq, ↓reduceIte, X14_2, k14_2, b17]
def X14_3 (a0 : Session) (o : Bool) : Ex × Fr × St :=
  (.normal, frOf 50 (upd anyF 2 (.bool o)), [])
theorem e14_3 (a0 : Session) (o : Bool) (h : m14_3 a0 = some o) : evCL T 0 k14_3 (frOf 50 (upd anyF 1 (.ptr 0 0 0))) [some ⟨.box, 5, [[.int .i64 a0.state, .int .i64 a0.hold, .int .i64 a0.left, .int .i64 a0.quiet, .int .i64 a0.ups]]⟩] = some (X14_3 a0 o) := by
  unfold m14_3 at h
  try simp -implicitDefEqProofs only [go_sem, Nat.reduceLT, Nat.reduceAdd, Nat.reduceSub, Nat.reduceMul, Nat.reduceEqDiff, Nat.reduceBEq, Nat.reduceLeDiff, Int.reduceToNat, Int.reduceLT, Int.reduceLE, Int.reduceEq, reduceCtorEq, ↓reduceIte, X14_3, k14_3]
  cases b22 : (eqI a0.left 0 : Bool)
  · replace h := br_f b22 h
    cases h
    simp -implicitDefEqProofs only [go_sem, Nat.reduceLT, Nat.reduceAdd, Nat.reduceSub, Nat.reduceMul, Nat.reduceEqDiff, Nat.reduceBEq, Nat.reduceLeDiff, Int.reduceToNat, Int.reduceLT, Int.reduceLE, Int.reduceEq, reduceCtorEq, ↓reduceIte, X14_3, k14_3, b22]
  · replace h := br_t b22 h
    cases h
    simp -implicitDefEqProofs only [go_sem, Nat.reduceLT, Nat.reduceAdd, Nat.reduceSub, Nat.reduceMul, Nat.reduceEqDiff, Nat.reduceBEq, Nat.reduceLeDiff, Int.reduceToNat, Int.reduceLT, Int.reduceLE, Int.reduceEq, reduceCtorEq, ↓reduceIte, X14_3, k14_3, b22]
def X14_4 (a0 : Session) (o : Bool) : Ex × Fr × St :=
  (.normal, frOf 50 (upd anyF 2 (.bool o)), [])
theorem e14_4 (a0 : Session) (o : Bool) (h : m14_4 a0 = some o) : evCL T 0 k14_4 (frOf 50 (upd anyF 1 (.ptr 0 0 0))) [some ⟨.box, 5, [[.int .i64 a0.state, .int .i64 a0.hold, .int .i64 a0.left, .int .i64 a0.quiet, .int .i64 a0.ups]]⟩] = some (X14_4 a0 o) := by
  unfold m14_4 at h
  obtain ⟨r29, q27, h⟩ := bnd_some h
  have w28 := e39 a0.left 1 90 r29 q27
  try simp -implicitDefEqProofs only [go_sem, Nat.reduceLT, Nat.reduceAdd, Nat.reduceSub, Nat.reduceMul, Nat.reduceEqDiff, Nat.reduceBEq, Nat.reduceLeDiff, Int.reduceToNat, Int.reduceLT, Int.reduceLE, Int.reduceEq, reduceCtorEq, ↓reduceIte] at w28
  try simp -implicitDefEqProofs only [go_sem, Nat.reduceLT, Nat.reduceAdd, Nat.reduceSub, Nat.reduceMul, Nat.reduceEqDiff, Nat.reduceBEq, Nat.reduceLeDiff, Int.reduceToNat, Int.reduceLT, Int.reduceLE, Int.reduceEq, reduceCtorEq, ↓reduceIte, X14_4, k14_4, w28]
  cases b30 : (r29 : Bool)
  · replace h := br_f b30 h
    cases h
    simp -implicitDefEqProofs only [go_sem, Nat.reduceLT, Nat.reduceAdd, Nat.reduceSub, Nat.reduceMul, Nat.reduceEqDiff, Nat.reduceBEq, Nat.reduceLeDiff, Int.reduceToNat, Int.reduceLT, Int.reduceLE, Int.reduceEq, reduceCtorEq, ↓reduceIte, X14_4, k14_4, w28, b30]
  · replace h := br_t b30 h
    cases h
    simp -implicitDefEqProofs only [go_sem, Nat.reduceLT, Nat.reduceAdd, Nat.reduceSub, Nat.reduceMul, Nat.reduceEqDiff, Nat.reduceBEq, Nat.reduceLeDiff, Int.reduceToNat, Int.reduceLT, Int.reduceLE, Int.reduceEq, reduceCtorEq, ↓reduceIte, X14_4, k14_4, w28, b30]
def X14_5 (a0 : Session) (o : Bool) : Ex × Fr × St :=
  (.normal, frOf 50 (upd anyF 2 (.bool o)), [])
theorem e14_5 (a0 : Session) (o : Bool) (h : m14_5 a0 = some o) : evCL T 0 k14_5 (frOf 50 (upd anyF 1 (.ptr 0 0 0))) [some ⟨.box, 5, [[.int .i64 a0.state, .int .i64 a0.hold, .int .i64 a0.left, .int .i64 a0.quiet, .int .i64 a0.ups]]⟩] = some (X14_5 a0 o) := by
  unfold m14_5 at h
  obtain ⟨r36, q34, h⟩ := bnd_some h
  have w35 := e39 a0.left 1 90 r36 q34
  try simp -implicitDefEqProofs only [go_sem, Nat.reduceLT, Nat.reduceAdd, Nat.reduceSub, Nat.reduceMul, Nat.reduceEqDiff, Nat.reduceBEq, Nat.reduceLeDiff, Int.reduceToNat, Int.reduceLT, Int.reduceLE, Int.reduceEq, reduceCtorEq, ↓reduceIte] at w35
  try simp -implicitDefEqProofs only [go_sem, Nat.reduceLT, Nat.reduceAdd, Nat.reduceSub, Nat.reduceMul, Nat.reduceEqDiff, Nat.reduceBEq, Nat.reduceLeDiff, Int.reduceToNat, Int.reduceLT, Int.reduceLE, Int.reduceEq, reduceCtorEq, ↓reduceIte, X14_5, k14_5, w35]
  cases b37 : (r36 : Bool)
  · replace h := br_f b37 h
    cases h
    simp -implicitDefEqProofs only [go_sem, Nat.reduceLT, Nat.reduceAdd, Nat.reduceSub, Nat.reduceMul, Nat.reduceEqDiff, Nat.reduceBEq, Nat.reduceLeDiff, Int.reduceToNat, Int.reduceLT, Int.reduceLE, Int.reduceEq, reduceCtorEq, ↓reduceIte, X14_5, k14_5, w35, b37]
  · replace h := br_t b37 h
    obtain ⟨r40, q38, h⟩ := bnd_some h
    have w39 := e39 a0.quiet 1 30 r40 q38
    try simp -implicitDefEqProofs only [go_sem, Nat.reduceLT, Nat.reduceAdd, Nat.reduceSub, Nat.reduceMul, Nat.reduceEqDiff, Nat.reduceBEq, Nat.reduceLeDiff, Int.reduceToNat, Int.reduceLT, Int.reduceLE, Int.reduceEq, reduceCtorEq, ↓reduceIte] at w39
    cases h
    simp -implicitDefEqProofs only [go_sem, Nat.reduceLT, Nat.reduceAdd, Nat.reduceSub, Nat.reduceMul, Nat.reduceEqDiff, Nat.reduceBEq, Nat.reduceLeDiff, Int.reduceToNat, Int.reduceLT, Int.reduceLE, Int.reduceEq, reduceCtorEq, ↓reduceIte, X14_5, k14_5, w35, b37, w39]
theorem call14 (args : List AV) (S : St) : evCall T (evFL T) 14 args S = lendC (evFL T 14) S (lendAll S [[0, 0, 0, 0, 0]] args) := evCall0 fn14 rfl rfl args S
theorem callz14 (args : List AV) (S : St) : evCallFz T (evFL T) 14 args S = lendZ (evFL T 14) S [[0]] (lendAll S [[0, 0, 0, 0, 0]] args) := evCallFz0 fn14 rfl rfl args S
attribute [go_sem] call14 callz14
theorem e14 (a0 : Session) (r : Bool) (h : m14 a0 = some r) : evFL T 14 [.agg [.int .i64 a0.state, .int .i64 a0.hold, .int .i64 a0.left, .int .i64 a0.quiet, .int .i64 a0.ups]] [] = some (.bool r, []) := by
  unfold m14 at h
  rw [evFL_at fn14 (Nat.le_of_ble_eq_true rfl) rfl (.inr rfl)]
  obtain ⟨v14, q12, h⟩ := bnd_some h
  have w13 := e14_1 a0 v14 q12
  simp only [X14_1] at w13
  try simp -implicitDefEqProofs only [go_sem, Nat.reduceLT, Nat.reduceAdd, Nat.reduceSub, Nat.reduceMul, Nat.reduceEqDiff, Nat.reduceBEq, Nat.reduceLeDiff, Int.reduceToNat, Int.reduceLT, Int.reduceLE, Int.reduceEq, reduceCtorEq, ↓reduceIte] at w13
  try simp -implicitDefEqProofs only [go_sem, Nat.reduceLT, Nat.reduceAdd, Nat.reduceSub, Nat.reduceMul, Nat.reduceEqDiff, Nat.reduceBEq, Nat.reduceLeDiff, Int.reduceToNat, Int.reduceLT, Int.reduceLE, Int.reduceEq, reduceCtorEq, ↓reduceIte, i14, c14, w13]
  cases b15 : (v14 : Bool)
  · replace h := br_f b15 h
    obtain ⟨v20, q18, h⟩ := bnd_some h
    have w19 := e14_2 a0 (eqI a0.state 0) v20 q18
    simp only [X14_2] at w19
    try simp -implicitDefEqProofs only [go_sem, Nat.reduceLT, Nat.reduceAdd, Nat.reduceSub, Nat.reduceMul, Nat.reduceEqDiff, Nat.reduceBEq, Nat.reduceLeDiff, Int.reduceToNat, Int.reduceLT, Int.reduceLE, Int.reduceEq, reduceCtorEq, ↓reduceIte] at w19
    try simp -implicitDefEqProofs only [go_sem, Nat.reduceLT, Nat.reduceAdd, Nat.reduceSub, Nat.reduceMul, Nat.reduceEqDiff, Nat.reduceBEq, Nat.reduceLeDiff, Int.reduceToNat, Int.reduceLT, Int.reduceLE, Int.reduceEq, reduceCtorEq, ↓reduceIte, i14, c14, w13, b15, w19]
    cases b21 : (v20 : Bool)
    · replace h := br_f b21 h
      try simp -implicitDefEqProofs only [go_sem, Nat.reduceLT, Nat.reduceAdd, Nat.reduceSub, Nat.reduceMul, Nat.reduceEqDiff, Nat.reduceBEq, Nat.reduceLeDiff, Int.reduceToNat, Int.reduceLT, Int.reduceLE, Int.reduceEq, reduceCtorEq, ↓reduceIte, i14, c14, w13, b15, w19, b21]
      cases b26 : (eqI a0.state 2 : Bool)
      · replace h := br_f b26 h
        obtain ⟨v43, q41, h⟩ := bnd_some h
        have w42 := e14_5 a0 v43 q41
        simp only [X14_5] at w42
        try simp -implicitDefEqProofs only [go_sem, Nat.reduceLT, Nat.reduceAdd, Nat.reduceSub, Nat.reduceMul, Nat.reduceEqDiff, Nat.reduceBEq, Nat.reduceLeDiff, Int.reduceToNat, Int.reduceLT, Int.reduceLE, Int.reduceEq, reduceCtorEq, ↓reduceIte] at w42
        cases h
        simp -implicitDefEqProofs only [go_sem, Nat.reduceLT, Nat.reduceAdd, Nat.reduceSub, Nat.reduceMul, Nat.reduceEqDiff, Nat.reduceBEq, Nat.reduceLeDiff, Int.reduceToNat, Int.reduceLT, Int.reduceLE, Int.reduceEq, reduceCtorEq, ↓reduceIte, i14, c14, w13, b15, w19, b21, b26, w42]
      · replace h := br_t b26 h
        obtain ⟨v33, q31, h⟩ := bnd_some h
        have w32 := e14_4 a0 v33 q31
        simp only [X14_4] at w32
        try simp -implicitDefEqProofs only [go_sem, Nat.reduceLT, Nat.reduceAdd, Nat.reduceSub, Nat.reduceMul, Nat.reduceEqDiff, Nat.reduceBEq, Nat.reduceLeDiff, Int.reduceToNat, Int.reduceLT, Int.reduceLE, Int.reduceEq, reduceCtorEq, ↓reduceIte] at w32
        cases h
        simp -implicitDefEqProofs only [go_sem, Nat.reduceLT, Nat.reduceAdd, Nat.reduceSub, Nat.reduceMul, Nat.reduceEqDiff, Nat.reduceBEq, Nat.reduceLeDiff, Int.reduceToNat, Int.reduceLT, Int.reduceLE, Int.reduceEq, reduceCtorEq, ↓reduceIte, i14, c14, w13, b15, w19, b21, b26, w32]
    · replace h := br_t b21 h
      obtain ⟨v25, q23, h⟩ := bnd_some h
      have w24 := e14_3 a0 v25 q23
      simp only [X14_3] at w24
      try simp -implicitDefEqProofs only [go_sem, Nat.reduceLT, Nat.reduceAdd, Nat.reduceSub, Nat.reduceMul, Nat.reduceEqDiff, Nat.reduceBEq, Nat.reduceLeDiff, Int.reduceToNat, Int.reduceLT, Int.reduceLE, Int.reduceEq, reduceCtorEq, ↓reduceIte] at w24
      cases h
      simp -implicitDefEqProofs only [go_sem, Nat.reduceLT, Nat.reduceAdd, Nat.reduceSub, Nat.reduceMul, Nat.reduceEqDiff, Nat.reduceBEq, Nat.reduceLeDiff, Int.reduceToNat, Int.reduceLT, Int.reduceLE, Int.reduceEq, reduceCtorEq, ↓reduceIte, i14, c14, w13, b15, w19, b21, w24]
  · replace h := br_t b15 h
    cases h
    simp -implicitDefEqProofs only [go_sem, Nat.reduceLT, Nat.reduceAdd, Nat.reduceSub, Nat.reduceMul, Nat.reduceEqDiff, Nat.reduceBEq, Nat.reduceLeDiff, Int.reduceToNat, Int.reduceLT, Int.reduceLE, Int.reduceEq, reduceCtorEq, ↓reduceIte, i14, c14, w13, b15]
-- f19 spec.StepSession
def X19_1 (a0 : Session) (a1 : Evt) (p1 : Session) (o : Bool) : Ex × Fr × St :=
  (.normal, frOf 26 (upd (upd (upd (upd anyF 2 (.ptr 0 0 0)) 3 (.ptr 1 0 0)) 4 (.ptr 2 0 0)) 16 (.bool o)), [some ⟨.box, 5, [[.int .i64 a0.state, .int .i64 a0.hold, .int .i64 a0.left, .int .i64 a0.quiet, .int .i64 a0.ups]]⟩, some ⟨.box, 2, [[.int .i64 a1.kind, .int .i64 a1.n]]⟩, some ⟨.box, 5, [[.int .i64 p1.state, .int .i64 p1.hold, .int .i64 p1.left, .int .i64 p1.quiet, .int .i64 p1.ups]]⟩])
theorem e19_1 (a0 : Session) (a1 : Evt) (p1 : Session) (o : Bool) (h : m19_1 a0 a1 = some o) : evCL T 0 k19_1 (frOf 26 (upd (upd (upd anyF 2 (.ptr 0 0 0)) 3 (.ptr 1 0 0)) 4 (.ptr 2 0 0))) [some ⟨.box, 5, [[.int .i64 a0.state, .int .i64 a0.hold, .int .i64 a0.left, .int .i64 a0.quiet, .int .i64 a0.ups]]⟩, some ⟨.box, 2, [[.int .i64 a1.kind, .int .i64 a1.n]]⟩, some ⟨.box, 5, [[.int .i64 p1.state, .int .i64 p1.hold, .int .i64 p1.left, .int .i64 p1.quiet, .int .i64 p1.ups]]⟩] = some (X19_1 a0 a1 p1 o) := by
  unfold m19_1 at h
  obtain ⟨r4, q2, h⟩ := bnd_some h
  have w3 := e14 a0 r4 q2
  try simp -implicitDefEqProofs only [go_sem, Nat.reduceLT, Nat.reduceAdd, Nat.reduceSub, Nat.reduceMul, Nat.reduceEqDiff, Nat.reduceBEq, Nat.reduceLeDiff, Int.reduceToNat, Int.reduceLT, Int.reduceLE, Int.reduceEq, reduceCtorEq, ↓reduceIte] at w3
  try simp -implicitDefEqProofs only [go_sem, Nat.reduceLT, Nat.reduceAdd, Nat.reduceSub, Nat.reduceMul, Nat.reduceEqDiff, Nat.reduceBEq, Nat.reduceLeDiff, Int.reduceToNat, Int.reduceLT, Int.reduceLE, Int.reduceEq, reduceCtorEq, ↓reduceIte, X19_1, k19_1, w3]
  cases b5 : (r4 : Bool)
  · replace h := br_f b5 h
    cases h
    simp -implicitDefEqProofs only [go_sem, Nat.reduceLT, Nat.reduceAdd, Nat.reduceSub, Nat.reduceMul, Nat.reduceEqDiff, Nat.reduceBEq, Nat.reduceLeDiff, Int.reduceToNat, Int.reduceLT, Int.reduceLE, Int.reduceEq, reduceCtorEq, ↓reduceIte, X19_1, k19_1, w3, b5]
  · replace h := br_t b5 h
    obtain ⟨r8, q6, h⟩ := bnd_some h
    have w7 := e41 a1 r8 q6
    try simp -implicitDefEqProofs only [go_sem, Nat.reduceLT, Nat.reduceAdd, Nat.reduceSub, Nat.reduceMul, Nat.reduceEqDiff, Nat.reduceBEq, Nat.reduceLeDiff, Int.reduceToNat, Int.reduceLT, Int.reduceLE, Int.reduceEq, reduceCtorEq, ↓reduceIte] at w7
    cases h
    simp -implicitDefEqProofs only [go_sem, Nat.reduceLT, Nat.reduceAdd, Nat.reduceSub, Nat.reduceMul, Nat.reduceEqDiff, Nat.reduceBEq, Nat.reduceLeDiff, Int.reduceToNat, Int.reduceLT, Int.reduceLE, Int.reduceEq, reduceCtorEq, ↓reduceIte, X19_1, k19_1, w3, b5, w7]
theorem call19 (args : List AV) (S : St) : evCall T (evFL T) 19 args S = lendC (evFL T 19) S (lendAll S [[0, 0, 0, 0, 0], [0, 0]] args) := evCall0 fn19 rfl rfl args S
theorem callz19 (args : List AV) (S : St) : evCallFz T (evFL T) 19 args S = lendZ (evFL T 19) S [[0, 0, 0, 0, 0], [1], [0]] (lendAll S [[0, 0, 0, 0, 0], [0, 0]] args) := evCallFz0 fn19 rfl rfl args S
attribute [go_sem] call19 callz19
theorem e19 (a0 : Session) (a1 : Evt) (r : (Session × (List Int) × Bool)) (h : m19 a0 a1 = some r) : evFL T 19 [.agg [.int .i64 a0.state, .int .i64 a0.hold, .int .i64 a0.left, .int .i64 a0.quiet, .int .i64 a0.ups], .agg [.int .i64 a1.kind, .int .i64 a1.n]] [] = some (.tup [.agg [.int .i64 r.1.state, .int .i64 r.1.hold, .int .i64 r.1.left, .int .i64 r.1.quiet, .int .i64 r.1.ups], .sl 0 0 r.2.1.length, .bool r.2.2], [some ⟨.arr, 1, r.2.1.map encInt⟩]) := by
  unfold m19 at h
  rw [evFL_at fn19 (Nat.le_of_ble_eq_true rfl) rfl (.inr rfl)]
  obtain ⟨v11, q9, h⟩ := bnd_some h
  have w10 := e19_1 a0 a1 (⟨0, 0, 0, 0, 0⟩ : Session) v11 q9
  simp only [X19_1] at w10
  try simp -implicitDefEqProofs only [go_sem, Nat.reduceLT, Nat.reduceAdd, Nat.reduceSub, Nat.reduceMul, Nat.reduceEqDiff, Nat.reduceBEq, Nat.reduceLeDiff, Int.reduceToNat, Int.reduceLT, Int.reduceLE, Int.reduceEq, reduceCtorEq, ↓reduceIte] at w10
  try simp -implicitDefEqProofs only [go_sem, Nat.reduceLT, Nat.reduceAdd, Nat.reduceSub, Nat.reduceMul, Nat.reduceEqDiff, Nat.reduceBEq, Nat.reduceLeDiff, Int.reduceToNat, Int.reduceLT, Int.reduceLE, Int.reduceEq, reduceCtorEq, ↓reduceIte, i19, c19, w10]
  cases b12 : (v11 : Bool)
  · replace h := br_f b12 h
    obtain ⟨⟨r15, r16⟩, q13, h⟩ := bnd_some h
    replace h := sel2_some h
    have w14 := e42 a0 a1 (r15, r16) q13
    try simp -implicitDefEqProofs only [go_sem, Nat.reduceLT, Nat.reduceAdd, Nat.reduceSub, Nat.reduceMul, Nat.reduceEqDiff, Nat.reduceBEq, Nat.reduceLeDiff, Int.reduceToNat, Int.reduceLT, Int.reduceLE, Int.reduceEq, reduceCtorEq, ↓reduceIte] at w14
    cases h
    simp -implicitDefEqProofs only [go_sem, Nat.reduceLT, Nat.reduceAdd, Nat.reduceSub, Nat.reduceMul, Nat.reduceEqDiff, Nat.reduceBEq, Nat.reduceLeDiff, Int.reduceToNat, Int.reduceLT, Int.reduceLE, Int.reduceEq, reduceCtorEq, ↓reduceIte, i19, c19, w10, b12, w14]
  · replace h := br_t b12 h
    cases h
    simp -implicitDefEqProofs only [go_sem, Nat.reduceLT, Nat.reduceAdd, Nat.reduceSub, Nat.reduceMul, Nat.reduceEqDiff, Nat.reduceBEq, Nat.reduceLeDiff, Int.reduceToNat, Int.reduceLT, Int.reduceLE, Int.reduceEq, reduceCtorEq, ↓reduceIte, i19, c19, w10, b12]
-- f38 spec.DrawNewSession
theorem call38 (args : List AV) (S : St) : evCall T (evFL T) 38 args S = lendC (evFL T 38) S (lendAll S [[1]] args) := evCall0 fn38 rfl rfl args S
theorem callz38 (args : List AV) (S : St) : evCallFz T (evFL T) 38 args S = lendZ (evFL T 38) S [[0]] (lendAll S [[1]] args) := evCallFz0 fn38 rfl rfl args S
attribute [go_sem] call38 callz38
theorem e38 (a0 : (List Int)) (r : Int) (h : m38 a0 = some r) : evFL T 38 [.ts .imm 1 (a0.map encIntu8)] [] = some (.int .i64 r, []) := by
  unfold m38 at h
  rw [evFL_at fn38 (Nat.le_of_ble_eq_true rfl) rfl (.inr rfl)]
  obtain ⟨⟨r3, r4, r5⟩, q1, h⟩ := bnd_some h
  replace h := sel3_some h
  have w2 := e57 (⟨a0, 0, 0⟩ : l1Cur) [2, 3, 9, 90, 91] (r3, r4, r5) q1
  try simp -implicitDefEqProofs only [go_sem, Nat.reduceLT, Nat.reduceAdd, Nat.reduceSub, Nat.reduceMul, Nat.reduceEqDiff, Nat.reduceBEq, Nat.reduceLeDiff, Int.reduceToNat, Int.reduceLT, Int.reduceLE, Int.reduceEq, reduceCtorEq, ↓reduceIte] at w2
  cases h
  simp -implicitDefEqProofs only [go_sem, Nat.reduceLT, Nat.reduceAdd, Nat.reduceSub, Nat.reduceMul, Nat.reduceEqDiff, Nat.reduceBEq, Nat.reduceLeDiff, Int.reduceToNat, Int.reduceLT, Int.reduceLE, Int.reduceEq, reduceCtorEq, ↓reduceIte, i38, c38, w2]
-- f10 laws.FnSession
def X10_1 (a1 : (List Int)) (r4 : Int) (r10 : Bool) (r15 : Bool) (r5 : (List Evt)) (r8 : Session) (r9 : (List Int)) (r13 : Session) (r14 : (List Int)) (o : Bool) : Ex × Fr × St :=
  (.normal, frOf 225 (upd (upd (upd (upd (upd (upd anyF 1 (.ts .imm 1 (a1.map encIntu8))) 5 (.int .i64 r4)) 6 (.sl 0 0 r5.length)) 7 (.ptr 1 0 0)) 9 (.bool r10)) 75 (.bool o)), [some ⟨.arr, 2, r5.map encEvt⟩, some ⟨.box, 5, [[.int .i64 r8.state, .int .i64 r8.hold, .int .i64 r8.left, .int .i64 r8.quiet, .int .i64 r8.ups]]⟩])
theorem e10_1 (a1 : (List Int)) (r4 : Int) (r10 : Bool) (r15 : Bool) (r5 : (List Evt)) (r8 : Session) (r9 : (List Int)) (r13 : Session) (r14 : (List Int)) (o : Bool) (h : m10_1 r10 r15 r8 r9 r13 r14 = some o) : evCL T 0 k10_1 (frOf 225 (upd (upd (upd (upd (upd (upd (upd (upd (upd anyF 1 (.ts .imm 1 (a1.map encIntu8))) 5 (.int .i64 r4)) 6 (.sl 0 0 r5.length)) 7 (.ptr 1 0 0)) 8 (.sl 2 0 r9.length)) 9 (.bool r10)) 10 (.ptr 3 0 0)) 11 (.sl 4 0 r14.length)) 12 (.bool r15))) [some ⟨.arr, 2, r5.map encEvt⟩, some ⟨.box, 5, [[.int .i64 r8.state, .int .i64 r8.hold, .int .i64 r8.left, .int .i64 r8.quiet, .int .i64 r8.ups]]⟩, some ⟨.arr, 1, r9.map encInt⟩, some ⟨.box, 5, [[.int .i64 r13.state, .int .i64 r13.hold, .int .i64 r13.left, .int .i64 r13.quiet, .int .i64 r13.ups]]⟩, some ⟨.arr, 1, r14.map encInt⟩] = some (X10_1 a1 r4 r10 r15 r5 r8 r9 r13 r14 o) := by
  unfold m10_1 at h
  try simp -implicitDefEqProofs only [go_sem, Nat.reduceLT, Nat.reduceAdd, Nat.reduceSub, Nat.reduceMul, Nat.reduceEqDiff, Nat.reduceBEq, Nat.reduceLeDiff, Int.reduceToNat, Int.reduceLT, Int.reduceLE, Int.reduceEq, reduceCtorEq, ↓reduceIte, X10_1, k10_1]
  cases b16 : (eqB r10 r15 : Bool)
  · replace h := br_f b16 h
    cases h
    simp -implicitDefEqProofs only [go_sem, Nat.reduceLT, Nat.reduceAdd, Nat.reduceSub, Nat.reduceMul, Nat.reduceEqDiff, Nat.reduceBEq, Nat.reduceLeDiff, Int.reduceToNat, Int.reduceLT, Int.reduceLE, Int.reduceEq, reduceCtorEq, ↓reduceIte, X10_1, k10_1, b16]
  · replace h := br_t b16 h
    try simp -implicitDefEqProofs only [go_sem, Nat.reduceLT, Nat.reduceAdd, Nat.reduceSub, Nat.reduceMul, Nat.reduceEqDiff, Nat.reduceBEq, Nat.reduceLeDiff, Int.reduceToNat, Int.reduceLT, Int.reduceLE, Int.reduceEq, reduceCtorEq, ↓reduceIte, X10_1, k10_1, b16]
    cases b17 : (eqI r8.state r13.state && (eqI r8.hold r13.hold && (eqI r8.left r13.left && (eqI r8.quiet r13.quiet && eqI r8.ups r13.ups))) : Bool)
    · replace h := br_f b17 h
      cases h
      simp -implicitDefEqProofs only [go_sem, Nat.reduceLT, Nat.reduceAdd, Nat.reduceSub, Nat.reduceMul, Nat.reduceEqDiff, Nat.reduceBEq, Nat.reduceLeDiff, Int.reduceToNat, Int.reduceLT, Int.reduceLE, Int.reduceEq, reduceCtorEq, ↓reduceIte, X10_1, k10_1, b16, b17]
    · replace h := br_t b17 h
      obtain ⟨r20, q18, h⟩ := bnd_some h
      have w19 := e36 r9 r14 r20 q18
      try simp -implicitDefEqProofs only [go_sem, Nat.reduceLT, Nat.reduceAdd, Nat.reduceSub, Nat.reduceMul, Nat.reduceEqDiff, Nat.reduceBEq, Nat.reduceLeDiff, Int.reduceToNat, Int.reduceLT, Int.reduceLE, Int.reduceEq, reduceCtorEq, ↓reduceIte] at w19
      cases h
      simp -implicitDefEqProofs only [go_sem, Nat.reduceLT, Nat.reduceAdd, Nat.reduceSub, Nat.reduceMul, Nat.reduceEqDiff, Nat.reduceBEq, Nat.reduceLeDiff, Int.reduceToNat, Int.reduceLT, Int.reduceLE, Int.reduceEq, reduceCtorEq, ↓reduceIte, X10_1, k10_1, b16, b17, w19]
def X10_7 (a1 : (List Int)) (r4 : Int) (s44 : Int) (s45 : Int) (p26 : Int) (s46 : Int) (p55 : Bool) (r8 : Session) (r5 : (List Evt)) (o : Int) : Ex × Fr × St :=
  (.normal, frOf 225 (upd (upd (upd (upd (upd (upd (upd (upd anyF 1 (.ts .imm 1 (a1.map encIntu8))) 5 (.int .i64 r4)) 7 (.ptr 0 0 0)) 13 (.int .i64 s44)) 14 (.int .i64 o)) 77 (.sl 1 0 r5.length)) 78 (.int .i64 p26)) 79 (.int .i64 s46)), [some ⟨.box, 5, [[.int .i64 r8.state, .int .i64 r8.hold, .int .i64 r8.left, .int .i64 r8.quiet, .int .i64 r8.ups]]⟩, some ⟨.arr, 2, r5.map encEvt⟩])
theorem e10_7 (a1 : (List Int)) (r4 : Int) (s44 : Int) (s45 : Int) (p26 : Int) (s46 : Int) (p55 : Bool) (r8 : Session) (r5 : (List Evt)) (o : Int) (h : m10_7 s45 p55 = some o) : evCL T 0 k10_7 (frOf 225 (upd (upd (upd (upd (upd (upd (upd (upd (upd anyF 1 (.ts .imm 1 (a1.map encIntu8))) 5 (.int .i64 r4)) 7 (.ptr 0 0 0)) 13 (.int .i64 s44)) 14 (.int .i64 s45)) 77 (.sl 1 0 r5.length)) 78 (.int .i64 p26)) 79 (.int .i64 s46)) 89 (.bool p55))) [some ⟨.box, 5, [[.int .i64 r8.state, .int .i64 r8.hold, .int .i64 r8.left, .int .i64 r8.quiet, .int .i64 r8.ups]]⟩, some ⟨.arr, 2, r5.map encEvt⟩] = some (X10_7 a1 r4 s44 s45 p26 s46 p55 r8 r5 o) := by
  unfold m10_7 at h
  try simp -implicitDefEqProofs only [go_sem, Nat.reduceLT, Nat.reduceAdd, Nat.reduceSub, Nat.reduceMul, Nat.reduceEqDiff, Nat.reduceBEq, Nat.reduceLeDiff, Int.reduceToNat, Int.reduceLT, Int.reduceLE, Int.reduceEq, reduceCtorEq, ↓reduceIte, X10_7, k10_7]
  cases b56 : (p55 : Bool)
  · replace h := br_f b56 h
    cases h
    simp -implicitDefEqProofs only [go_sem, Nat.reduceLT, Nat.reduceAdd, Nat.reduceSub, Nat.reduceMul, Nat.reduceEqDiff, Nat.reduceBEq, Nat.reduceLeDiff, Int.reduceToNat, Int.reduceLT, Int.reduceLE, Int.reduceEq, reduceCtorEq, ↓reduceIte, X10_7, k10_7, b56]
  · replace h := br_t b56 h
    cases h
    simp -implicitDefEqProofs only [go_sem, Nat.reduceLT, Nat.reduceAdd, Nat.reduceSub, Nat.reduceMul, Nat.reduceEqDiff, Nat.reduceBEq, Nat.reduceLeDiff, Int.reduceToNat, Int.reduceLT, Int.reduceLE, Int.reduceEq, reduceCtorEq, ↓reduceIte, X10_7, k10_7, b56]
def X10_6 (a1 : (List Int)) (r4 : Int) (s44 : Int) (s45 : Int) (p26 : Int) (s46 : Int) (x48 : Evt) (p53 : Bool) (r8 : Session) (r5 : (List Evt)) (o : (Int × Int)) : Ex × Fr × St :=
  (.normal, frOf 225 (upd (upd (upd (upd (upd (upd (upd (upd anyF 1 (.ts .imm 1 (a1.map encIntu8))) 5 (.int .i64 r4)) 7 (.ptr 0 0 0)) 13 (.int .i64 o.1)) 14 (.int .i64 o.2)) 77 (.sl 1 0 r5.length)) 78 (.int .i64 p26)) 79 (.int .i64 s46)), [some ⟨.box, 5, [[.int .i64 r8.state, .int .i64 r8.hold, .int .i64 r8.left, .int .i64 r8.quiet, .int .i64 r8.ups]]⟩, some ⟨.arr, 2, r5.map encEvt⟩])
theorem e10_6 (a1 : (List Int)) (r4 : Int) (s44 : Int) (s45 : Int) (p26 : Int) (s46 : Int) (x48 : Evt) (p53 : Bool) (r8 : Session) (r5 : (List Evt)) (o : (Int × Int)) (h : m10_6 s44 s45 x48 p53 = some o) : evCL T 0 k10_6 (frOf 225 (upd (upd (upd (upd (upd (upd (upd (upd (upd (upd anyF 1 (.ts .imm 1 (a1.map encIntu8))) 5 (.int .i64 r4)) 7 (.ptr 0 0 0)) 13 (.int .i64 s44)) 14 (.int .i64 s45)) 77 (.sl 1 0 r5.length)) 78 (.int .i64 p26)) 79 (.int .i64 s46)) 84 (.int .i64 x48.kind)) 85 (.bool p53))) [some ⟨.box, 5, [[.int .i64 r8.state, .int .i64 r8.hold, .int .i64 r8.left, .int .i64 r8.quiet, .int .i64 r8.ups]]⟩, some ⟨.arr, 2, r5.map encEvt⟩] = some (X10_6 a1 r4 s44 s45 p26 s46 x48 p53 r8 r5 o) := by
  unfold m10_6 at h
  try simp -implicitDefEqProofs only [go_sem, Nat.reduceLT, Nat.reduceAdd, Nat.reduceSub, Nat.reduceMul, Nat.reduceEqDiff, Nat.reduceBEq, Nat.reduceLeDiff, Int.reduceToNat, Int.reduceLT, Int.reduceLE, Int.reduceEq, reduceCtorEq, ↓reduceIte, X10_6, k10_6]
  cases b54 : (p53 : Bool)
  · replace h := br_f b54 h
    obtain ⟨v59, q57, h⟩ := bnd_some h
    have w58 := e10_7 a1 r4 s44 s45 p26 s46 (eqI x48.kind 7) r8 r5 v59 q57
    simp only [X10_7] at w58
    try simp -implicitDefEqProofs only [go_sem, Nat.reduceLT, Nat.reduceAdd, Nat.reduceSub, Nat.reduceMul, Nat.reduceEqDiff, Nat.reduceBEq, Nat.reduceLeDiff, Int.reduceToNat, Int.reduceLT, Int.reduceLE, Int.reduceEq, reduceCtorEq, ↓reduceIte] at w58
    cases h
    simp -implicitDefEqProofs only [go_sem, Nat.reduceLT, Nat.reduceAdd, Nat.reduceSub, Nat.reduceMul, Nat.reduceEqDiff, Nat.reduceBEq, Nat.reduceLeDiff, Int.reduceToNat, Int.reduceLT, Int.reduceLE, Int.reduceEq, reduceCtorEq, ↓reduceIte, X10_6, k10_6, b54, w58]
  · replace h := br_t b54 h
    cases h
    simp -implicitDefEqProofs only [go_sem, Nat.reduceLT, Nat.reduceAdd, Nat.reduceSub, Nat.reduceMul, Nat.reduceEqDiff, Nat.reduceBEq, Nat.reduceLeDiff, Int.reduceToNat, Int.reduceLT, Int.reduceLE, Int.reduceEq, reduceCtorEq, ↓reduceIte, X10_6, k10_6, b54]
def X10_3 (a1 : (List Int)) (r4 : Int) (p26 : Int) (r8 : Session) (r5 : (List Evt)) (o : (Int × Int)) : Ex × Fr × St :=
  (.exit 0, frOf 225 (upd (upd (upd (upd (upd anyF 1 (.ts .imm 1 (a1.map encIntu8))) 5 (.int .i64 r4)) 7 (.ptr 0 0 0)) 13 (.int .i64 o.1)) 14 (.int .i64 o.2)), [some ⟨.box, 5, [[.int .i64 r8.state, .int .i64 r8.hold, .int .i64 r8.left, .int .i64 r8.quiet, .int .i64 r8.ups]]⟩])
def E10_3 (a1 : (List Int)) (r4 : Int) (p26 : Int) (r8 : Session) (r5 : (List Evt)) (s : (Int × Int × Int)) : Fr × St := (frOf 225 (upd (upd (upd (upd (upd (upd (upd (upd anyF 1 (.ts .imm 1 (a1.map encIntu8))) 5 (.int .i64 r4)) 7 (.ptr 0 0 0)) 13 (.int .i64 s.1)) 14 (.int .i64 s.2.1)) 77 (.sl 1 0 r5.length)) 78 (.int .i64 p26)) 79 (.int .i64 s.2.2)), [some ⟨.box, 5, [[.int .i64 r8.state, .int .i64 r8.hold, .int .i64 r8.left, .int .i64 r8.quiet, .int .i64 r8.ups]]⟩, some ⟨.arr, 2, r5.map encEvt⟩])
theorem b10_3 (a1 : (List Int)) (r4 : Int) (p26 : Int) (r8 : Session) (r5 : (List Evt)) (s : (Int × Int × Int)) (o : Ctl (Int × Int × Int) (Int × Int)) (h : m10_3b p26 r5 s = some o) : evCL T 0 k10_3b (E10_3 a1 r4 p26 r8 r5 s).1 (E10_3 a1 r4 p26 r8 r5 s).2 = some (ctlX (E10_3 a1 r4 p26 r8 r5) (X10_3 a1 r4 p26 r8 r5) o) := by
  unfold m10_3b at h
  obtain ⟨s44, s45, s46⟩ := s
  replace h := sel3_some h
  try simp -implicitDefEqProofs only [go_sem, Nat.reduceLT, Nat.reduceAdd, Nat.reduceSub, Nat.reduceMul, Nat.reduceEqDiff, Nat.reduceBEq, Nat.reduceLeDiff, Int.reduceToNat, Int.reduceLT, Int.reduceLE, Int.reduceEq, reduceCtorEq, ↓reduceIte, E10_3, X10_3, k10_3b]
  cases b47 : (ltI s46 p26 : Bool)
  · replace h := br_f b47 h
    cases h
    simp -implicitDefEqProofs only [go_sem, Nat.reduceLT, Nat.reduceAdd, Nat.reduceSub, Nat.reduceMul, Nat.reduceEqDiff, Nat.reduceBEq, Nat.reduceLeDiff, Int.reduceToNat, Int.reduceLT, Int.reduceLE, Int.reduceEq, reduceCtorEq, ↓reduceIte, E10_3, X10_3, k10_3b, b47]
  · replace h := br_t b47 h
    obtain ⟨x48, q49, h⟩ := bnd_some h
    obtain ⟨g50, g51, g52⟩ := idx_row encEvt q49
    try simp -implicitDefEqProofs only [go_sem, Nat.reduceLT, Nat.reduceAdd, Nat.reduceSub, Nat.reduceMul, Nat.reduceEqDiff, Nat.reduceBEq, Nat.reduceLeDiff, Int.reduceToNat, Int.reduceLT, Int.reduceLE, Int.reduceEq, reduceCtorEq, ↓reduceIte] at g51
    try simp -implicitDefEqProofs only [go_sem, Nat.reduceLT, Nat.reduceAdd, Nat.reduceSub, Nat.reduceMul, Nat.reduceEqDiff, Nat.reduceBEq, Nat.reduceLeDiff, Int.reduceToNat, Int.reduceLT, Int.reduceLE, Int.reduceEq, reduceCtorEq, ↓reduceIte] at g52
    obtain ⟨⟨v62, v63⟩, q60, h⟩ := bnd_some h
    replace h := sel2_some h
    have w61 := e10_6 a1 r4 s44 s45 p26 s46 x48 (eqI x48.kind 5) r8 r5 (v62, v63) q60
    simp only [X10_6] at w61
    try simp -implicitDefEqProofs only [go_sem, Nat.reduceLT, Nat.reduceAdd, Nat.reduceSub, Nat.reduceMul, Nat.reduceEqDiff, Nat.reduceBEq, Nat.reduceLeDiff, Int.reduceToNat, Int.reduceLT, Int.reduceLE, Int.reduceEq, reduceCtorEq, ↓reduceIte] at w61
    cases h
    simp -implicitDefEqProofs only [go_sem, Nat.reduceLT, Nat.reduceAdd, Nat.reduceSub, Nat.reduceMul, Nat.reduceEqDiff, Nat.reduceBEq, Nat.reduceLeDiff, Int.reduceToNat, Int.reduceLT, Int.reduceLE, Int.reduceEq, reduceCtorEq, ↓reduceIte, E10_3, X10_3, k10_3b, b47, g50, g51, g52, w61]
theorem e10_3 (a1 : (List Int)) (r4 : Int) (p26 : Int) (r8 : Session) (r5 : (List Evt)) (s : (Int × Int × Int)) (o : (Int × Int)) (h : loopP (m10_3b p26 r5) s = some o) : evCL T 0 (.loop k10_3b) (E10_3 a1 r4 p26 r8 r5 s).1 (E10_3 a1 r4 p26 r8 r5 s).2 = some (X10_3 a1 r4 p26 r8 r5 o) :=
  loop_walk (E := E10_3 a1 r4 p26 r8 r5) (X := X10_3 a1 r4 p26 r8 r5) (by intro b; (simp only [X10_3]; nofun)) (b10_3 a1 r4 p26 r8 r5) s o h
def X10_8 (a1 : (List Int)) (r4 : Int) (v66 : Int) (v67 : Int) (r70 : Bool) (r71 : Bool) (r8 : Session) (o : Bool) : Ex × Fr × St :=
  (.normal, frOf 225 (upd (upd (upd anyF 1 (.ts .imm 1 (a1.map encIntu8))) 7 (.ptr 0 0 0)) 131 (.bool o)), [some ⟨.box, 5, [[.int .i64 r8.state, .int .i64 r8.hold, .int .i64 r8.left, .int .i64 r8.quiet, .int .i64 r8.ups]]⟩])
theorem e10_8 (a1 : (List Int)) (r4 : Int) (v66 : Int) (v67 : Int) (r70 : Bool) (r71 : Bool) (r8 : Session) (o : Bool) (h : m10_8 r4 v66 v67 r70 r71 r8 = some o) : evCL T 0 k10_8 (frOf 225 (upd (upd (upd (upd (upd (upd (upd anyF 1 (.ts .imm 1 (a1.map encIntu8))) 5 (.int .i64 r4)) 7 (.ptr 0 0 0)) 13 (.int .i64 v66)) 14 (.int .i64 v67)) 17 (.bool r70)) 18 (.bool r71))) [some ⟨.box, 5, [[.int .i64 r8.state, .int .i64 r8.hold, .int .i64 r8.left, .int .i64 r8.quiet, .int .i64 r8.ups]]⟩] = some (X10_8 a1 r4 v66 v67 r70 r71 r8 o) := by
  unfold m10_8 at h
  obtain ⟨r74, q72, h⟩ := bnd_some h
  have w73 := e16 r8 r74 q72
  try simp -implicitDefEqProofs only [go_sem, Nat.reduceLT, Nat.reduceAdd, Nat.reduceSub, Nat.reduceMul, Nat.reduceEqDiff, Nat.reduceBEq, Nat.reduceLeDiff, Int.reduceToNat, Int.reduceLT, Int.reduceLE, Int.reduceEq, reduceCtorEq, ↓reduceIte] at w73
  try simp -implicitDefEqProofs only [go_sem, Nat.reduceLT, Nat.reduceAdd, Nat.reduceSub, Nat.reduceMul, Nat.reduceEqDiff, Nat.reduceBEq, Nat.reduceLeDiff, Int.reduceToNat, Int.reduceLT, Int.reduceLE, Int.reduceEq, reduceCtorEq, ↓reduceIte, X10_8, k10_8, w73]
  cases b75 : (r74 : Bool)
  · replace h := br_f b75 h
    cases h
    simp -implicitDefEqProofs only [go_sem, Nat.reduceLT, Nat.reduceAdd, Nat.reduceSub, Nat.reduceMul, Nat.reduceEqDiff, Nat.reduceBEq, Nat.reduceLeDiff, Int.reduceToNat, Int.reduceLT, Int.reduceLE, Int.reduceEq, reduceCtorEq, ↓reduceIte, X10_8, k10_8, w73, b75]
  · replace h := br_t b75 h
    try simp -implicitDefEqProofs only [go_sem, Nat.reduceLT, Nat.reduceAdd, Nat.reduceSub, Nat.reduceMul, Nat.reduceEqDiff, Nat.reduceBEq, Nat.reduceLeDiff, Int.reduceToNat, Int.reduceLT, Int.reduceLE, Int.reduceEq, reduceCtorEq, ↓reduceIte, X10_8, k10_8, w73, b75]
    cases b76 : (r71 : Bool)
    · replace h := br_f b76 h
      cases h
      simp -implicitDefEqProofs only [go_sem, Nat.reduceLT, Nat.reduceAdd, Nat.reduceSub, Nat.reduceMul, Nat.reduceEqDiff, Nat.reduceBEq, Nat.reduceLeDiff, Int.reduceToNat, Int.reduceLT, Int.reduceLE, Int.reduceEq, reduceCtorEq, ↓reduceIte, X10_8, k10_8, w73, b75, b76]
    · replace h := br_t b76 h
      try simp -implicitDefEqProofs only [go_sem, Nat.reduceLT, Nat.reduceAdd, Nat.reduceSub, Nat.reduceMul, Nat.reduceEqDiff, Nat.reduceBEq, Nat.reduceLeDiff, Int.reduceToNat, Int.reduceLT, Int.reduceLE, Int.reduceEq, reduceCtorEq, ↓reduceIte, X10_8, k10_8, w73, b75, b76]
      cases b77 : (ltI v66 r8.ups : Bool)
      · replace h := br_f b77 h
        try simp -implicitDefEqProofs only [go_sem, Nat.reduceLT, Nat.reduceAdd, Nat.reduceSub, Nat.reduceMul, Nat.reduceEqDiff, Nat.reduceBEq, Nat.reduceLeDiff, Int.reduceToNat, Int.reduceLT, Int.reduceLE, Int.reduceEq, reduceCtorEq, ↓reduceIte, X10_8, k10_8, w73, b75, b76, b77]
        cases b78 : (ltI v67 r8.ups : Bool)
        · replace h := br_f b78 h
          try simp -implicitDefEqProofs only [go_sem, Nat.reduceLT, Nat.reduceAdd, Nat.reduceSub, Nat.reduceMul, Nat.reduceEqDiff, Nat.reduceBEq, Nat.reduceLeDiff, Int.reduceToNat, Int.reduceLT, Int.reduceLE, Int.reduceEq, reduceCtorEq, ↓reduceIte, X10_8, k10_8, w73, b75, b76, b77, b78]
          cases b79 : (r70 : Bool)
          · replace h := br_f b79 h
            cases h
            simp -implicitDefEqProofs only [go_sem, Nat.reduceLT, Nat.reduceAdd, Nat.reduceSub, Nat.reduceMul, Nat.reduceEqDiff, Nat.reduceBEq, Nat.reduceLeDiff, Int.reduceToNat, Int.reduceLT, Int.reduceLE, Int.reduceEq, reduceCtorEq, ↓reduceIte, X10_8, k10_8, w73, b75, b76, b77, b78, b79]
          · replace h := br_t b79 h
            try simp -implicitDefEqProofs only [go_sem, Nat.reduceLT, Nat.reduceAdd, Nat.reduceSub, Nat.reduceMul, Nat.reduceEqDiff, Nat.reduceBEq, Nat.reduceLeDiff, Int.reduceToNat, Int.reduceLT, Int.reduceLE, Int.reduceEq, reduceCtorEq, ↓reduceIte, X10_8, k10_8, w73, b75, b76, b77, b78, b79]
            cases b80 : (eqI r8.ups 0 : Bool)
            · replace h := br_f b80 h
              cases h
              simp -implicitDefEqProofs only [go_sem, Nat.reduceLT, Nat.reduceAdd, Nat.reduceSub, Nat.reduceMul, Nat.reduceEqDiff, Nat.reduceBEq, Nat.reduceLeDiff, Int.reduceToNat, Int.reduceLT, Int.reduceLE, Int.reduceEq, reduceCtorEq, ↓reduceIte, X10_8, k10_8, w73, b75, b76, b77, b78, b79, b80]
            · replace h := br_t b80 h
              cases h
              simp -implicitDefEqProofs only [go_sem, Nat.reduceLT, Nat.reduceAdd, Nat.reduceSub, Nat.reduceMul, Nat.reduceEqDiff, Nat.reduceBEq, Nat.reduceLeDiff, Int.reduceToNat, Int.reduceLT, Int.reduceLE, Int.reduceEq, reduceCtorEq, ↓reduceIte, X10_8, k10_8, w73, b75, b76, b77, b78, b79, b80]
        · replace h := br_t b78 h
          cases h
          simp -implicitDefEqProofs only [go_sem, Nat.reduceLT, Nat.reduceAdd, Nat.reduceSub, Nat.reduceMul, Nat.reduceEqDiff, Nat.reduceBEq, Nat.reduceLeDiff, Int.reduceToNat, Int.reduceLT, Int.reduceLE, Int.reduceEq, reduceCtorEq, ↓reduceIte, X10_8, k10_8, w73, b75, b76, b77, b78]
      · replace h := br_t b77 h
        cases h
        simp -implicitDefEqProofs only [go_sem, Nat.reduceLT, Nat.reduceAdd, Nat.reduceSub, Nat.reduceMul, Nat.reduceEqDiff, Nat.reduceBEq, Nat.reduceLeDiff, Int.reduceToNat, Int.reduceLT, Int.reduceLE, Int.reduceEq, reduceCtorEq, ↓reduceIte, X10_8, k10_8, w73, b75, b76, b77]
def X10_9 (a1 : (List Int)) (r8 : Session) (o : (Session ⊕ Unit)) : Ex × Fr × St :=
  match o with
  | .inl o => (.exit 3, frOf 225 (upd (upd (upd anyF 1 (.ts .imm 1 (a1.map encIntu8))) 7 (.ptr 0 0 0)) 19 (.ptr 1 0 0)), [some ⟨.box, 5, [[.int .i64 r8.state, .int .i64 r8.hold, .int .i64 r8.left, .int .i64 r8.quiet, .int .i64 r8.ups]]⟩, some ⟨.box, 5, [[.int .i64 o.state, .int .i64 o.hold, .int .i64 o.left, .int .i64 o.quiet, .int .i64 o.ups]]⟩])
  | .inr o => (.ret, frOf 225 (upd anyF 4 (.bool false)), [])
def E10_9 (a1 : (List Int)) (r8 : Session) (s : (Int × Session)) : Fr × St := (frOf 225 (upd (upd (upd (upd anyF 1 (.ts .imm 1 (a1.map encIntu8))) 7 (.ptr 0 0 0)) 19 (.ptr 1 0 0)) 20 (.int .i64 s.1)), [some ⟨.box, 5, [[.int .i64 r8.state, .int .i64 r8.hold, .int .i64 r8.left, .int .i64 r8.quiet, .int .i64 r8.ups]]⟩, some ⟨.box, 5, [[.int .i64 s.2.state, .int .i64 s.2.hold, .int .i64 s.2.left, .int .i64 s.2.quiet, .int .i64 s.2.ups]]⟩])
theorem b10_9 (a1 : (List Int)) (r8 : Session) (s : (Int × Session)) (o : Ctl (Int × Session) (Session ⊕ Unit)) (h : m10_9b r8 s = some o) : evCL T 0 k10_9b (E10_9 a1 r8 s).1 (E10_9 a1 r8 s).2 = some (ctlX (E10_9 a1 r8) (X10_9 a1 r8) o) := by
  unfold m10_9b at h
  obtain ⟨s92, s93⟩ := s
  replace h := sel2_some h
  try simp -implicitDefEqProofs only [go_sem, Nat.reduceLT, Nat.reduceAdd, Nat.reduceSub, Nat.reduceMul, Nat.reduceEqDiff, Nat.reduceBEq, Nat.reduceLeDiff, Int.reduceToNat, Int.reduceLT, Int.reduceLE, Int.reduceEq, reduceCtorEq, ↓reduceIte, E10_9, X10_9, k10_9b]
  cases b94 : (ltI s92 r8.left : Bool)
  · replace h := br_f b94 h
    cases h
    simp -implicitDefEqProofs only [go_sem, Nat.reduceLT, Nat.reduceAdd, Nat.reduceSub, Nat.reduceMul, Nat.reduceEqDiff, Nat.reduceBEq, Nat.reduceLeDiff, Int.reduceToNat, Int.reduceLT, Int.reduceLE, Int.reduceEq, reduceCtorEq, ↓reduceIte, E10_9, X10_9, k10_9b, b94]
  · replace h := br_t b94 h
    obtain ⟨⟨r97, r98, r99⟩, q95, h⟩ := bnd_some h
    replace h := sel3_some h
    have w96 := e21 s93 (⟨10, 0⟩ : Evt) (r97, r98, r99) q95
    try simp -implicitDefEqProofs only [go_sem, Nat.reduceLT, Nat.reduceAdd, Nat.reduceSub, Nat.reduceMul, Nat.reduceEqDiff, Nat.reduceBEq, Nat.reduceLeDiff, Int.reduceToNat, Int.reduceLT, Int.reduceLE, Int.reduceEq, reduceCtorEq, ↓reduceIte] at w96
    try simp -implicitDefEqProofs only [go_sem, Nat.reduceLT, Nat.reduceAdd, Nat.reduceSub, Nat.reduceMul, Nat.reduceEqDiff, Nat.reduceBEq, Nat.reduceLeDiff, Int.reduceToNat, Int.reduceLT, Int.reduceLE, Int.reduceEq, reduceCtorEq, ↓reduceIte, E10_9, X10_9, k10_9b, b94, w96]
    cases b100 : (r99 : Bool)
    · replace h := br_f b100 h
      cases h
      simp -implicitDefEqProofs only [go_sem, Nat.reduceLT, Nat.reduceAdd, Nat.reduceSub, Nat.reduceMul, Nat.reduceEqDiff, Nat.reduceBEq, Nat.reduceLeDiff, Int.reduceToNat, Int.reduceLT, Int.reduceLE, Int.reduceEq, reduceCtorEq, ↓reduceIte, E10_9, X10_9, k10_9b, b94, w96, b100]
    · replace h := br_t b100 h
      cases h
      simp -implicitDefEqProofs only [go_sem, Nat.reduceLT, Nat.reduceAdd, Nat.reduceSub, Nat.reduceMul, Nat.reduceEqDiff, Nat.reduceBEq, Nat.reduceLeDiff, Int.reduceToNat, Int.reduceLT, Int.reduceLE, Int.reduceEq, reduceCtorEq, ↓reduceIte, E10_9, X10_9, k10_9b, b94, w96, b100]
theorem e10_9 (a1 : (List Int)) (r8 : Session) (s : (Int × Session)) (o : (Session ⊕ Unit)) (h : loopP (m10_9b r8) s = some o) : evCL T 0 (.loop k10_9b) (E10_9 a1 r8 s).1 (E10_9 a1 r8 s).2 = some (X10_9 a1 r8 o) :=
  loop_walk (E := E10_9 a1 r8) (X := X10_9 a1 r8) (by intro b; rcases b with b | b <;> (simp only [X10_9]; nofun)) (b10_9 a1 r8) s o h
def X10_10 (a1 : (List Int)) (r8 : Session) (v103 : Session) (o : Bool) : Ex × Fr × St :=
  (.normal, frOf 225 (upd (upd anyF 1 (.ts .imm 1 (a1.map encIntu8))) 156 (.bool o)), [])
theorem e10_10 (a1 : (List Int)) (r8 : Session) (v103 : Session) (o : Bool) (h : m10_10 r8 v103 = some o) : evCL T 0 k10_10 (frOf 225 (upd (upd (upd anyF 1 (.ts .imm 1 (a1.map encIntu8))) 7 (.ptr 0 0 0)) 19 (.ptr 1 0 0))) [some ⟨.box, 5, [[.int .i64 r8.state, .int .i64 r8.hold, .int .i64 r8.left, .int .i64 r8.quiet, .int .i64 r8.ups]]⟩, some ⟨.box, 5, [[.int .i64 v103.state, .int .i64 v103.hold, .int .i64 v103.left, .int .i64 v103.quiet, .int .i64 v103.ups]]⟩] = some (X10_10 a1 r8 v103 o) := by
  unfold m10_10 at h
  try simp -implicitDefEqProofs only [go_sem, Nat.reduceLT, Nat.reduceAdd, Nat.reduceSub, Nat.reduceMul, Nat.reduceEqDiff, Nat.reduceBEq, Nat.reduceLeDiff, Int.reduceToNat, Int.reduceLT, Int.reduceLE, Int.reduceEq, reduceCtorEq, ↓reduceIte, X10_10, k10_10]
  cases b104 : (leI 2 r8.state : Bool)
  · replace h := br_f b104 h
    cases h
    simp -implicitDefEqProofs only [go_sem, Nat.reduceLT, Nat.reduceAdd, Nat.reduceSub, Nat.reduceMul, Nat.reduceEqDiff, Nat.reduceBEq, Nat.reduceLeDiff, Int.reduceToNat, Int.reduceLT, Int.reduceLE, Int.reduceEq, reduceCtorEq, ↓reduceIte, X10_10, k10_10, b104]
  · replace h := br_t b104 h
    cases h
    simp -implicitDefEqProofs only [go_sem, Nat.reduceLT, Nat.reduceAdd, Nat.reduceSub, Nat.reduceMul, Nat.reduceEqDiff, Nat.reduceBEq, Nat.reduceLeDiff, Int.reduceToNat, Int.reduceLT, Int.reduceLE, Int.reduceEq, reduceCtorEq, ↓reduceIte, X10_10, k10_10, b104]
def X10_2 (a1 : (List Int)) (r4 : Int) (r10 : Bool) (r5 : (List Evt)) (r8 : Session) (o : (Unit ⊕ Unit)) : Ex × Fr × St :=
  match o with
  | .inl o => (.normal, frOf 225 (upd anyF 1 (.ts .imm 1 (a1.map encIntu8))), [])
  | .inr o => (.ret, frOf 225 (upd anyF 4 (.bool false)), [])
theorem e10_2 (a1 : (List Int)) (r4 : Int) (r10 : Bool) (r5 : (List Evt)) (r8 : Session) (o : (Unit ⊕ Unit)) (h : m10_2 r4 r10 r5 r8 = some o) : evCL T 0 k10_2 (frOf 225 (upd (upd (upd (upd (upd anyF 1 (.ts .imm 1 (a1.map encIntu8))) 5 (.int .i64 r4)) 6 (.sl 0 0 r5.length)) 7 (.ptr 1 0 0)) 76 (.bool r10))) [some ⟨.arr, 2, r5.map encEvt⟩, some ⟨.box, 5, [[.int .i64 r8.state, .int .i64 r8.hold, .int .i64 r8.left, .int .i64 r8.quiet, .int .i64 r8.ups]]⟩] = some (X10_2 a1 r4 r10 r5 r8 o) := by
  unfold m10_2 at h
  try simp -implicitDefEqProofs only [go_sem, Nat.reduceLT, Nat.reduceAdd, Nat.reduceSub, Nat.reduceMul, Nat.reduceEqDiff, Nat.reduceBEq, Nat.reduceLeDiff, Int.reduceToNat, Int.reduceLT, Int.reduceLE, Int.reduceEq, reduceCtorEq, ↓reduceIte, X10_2, k10_2]
  cases b25 : (r10 : Bool)
  · replace h := br_f b25 h
    cases h
    simp -implicitDefEqProofs only [go_sem, Nat.reduceLT, Nat.reduceAdd, Nat.reduceSub, Nat.reduceMul, Nat.reduceEqDiff, Nat.reduceBEq, Nat.reduceLeDiff, Int.reduceToNat, Int.reduceLT, Int.reduceLE, Int.reduceEq, reduceCtorEq, ↓reduceIte, X10_2, k10_2, b25]
  · replace h := br_t b25 h
    obtain ⟨⟨v66, v67⟩, q64, h⟩ := bnd_some h
    replace h := sel2_some h
    have w65 := e10_3 a1 r4 (↑r5.length : Int) r8 r5 (0, 0, 0) (v66, v67) q64
    simp only [E10_3, X10_3] at w65
    try simp -implicitDefEqProofs only [go_sem, Nat.reduceLT, Nat.reduceAdd, Nat.reduceSub, Nat.reduceMul, Nat.reduceEqDiff, Nat.reduceBEq, Nat.reduceLeDiff, Int.reduceToNat, Int.reduceLT, Int.reduceLE, Int.reduceEq, reduceCtorEq, ↓reduceIte] at w65
    obtain ⟨⟨r70, r71⟩, q68, h⟩ := bnd_some h
    replace h := sel2_some h
    have w69 := e18 r8 (r70, r71) q68
    try simp -implicitDefEqProofs only [go_sem, Nat.reduceLT, Nat.reduceAdd, Nat.reduceSub, Nat.reduceMul, Nat.reduceEqDiff, Nat.reduceBEq, Nat.reduceLeDiff, Int.reduceToNat, Int.reduceLT, Int.reduceLE, Int.reduceEq, reduceCtorEq, ↓reduceIte] at w69
    obtain ⟨v83, q81, h⟩ := bnd_some h
    have w82 := e10_8 a1 r4 v66 v67 r70 r71 r8 v83 q81
    simp only [X10_8] at w82
    try simp -implicitDefEqProofs only [go_sem, Nat.reduceLT, Nat.reduceAdd, Nat.reduceSub, Nat.reduceMul, Nat.reduceEqDiff, Nat.reduceBEq, Nat.reduceLeDiff, Int.reduceToNat, Int.reduceLT, Int.reduceLE, Int.reduceEq, reduceCtorEq, ↓reduceIte] at w82
    try simp -implicitDefEqProofs only [go_sem, Nat.reduceLT, Nat.reduceAdd, Nat.reduceSub, Nat.reduceMul, Nat.reduceEqDiff, Nat.reduceBEq, Nat.reduceLeDiff, Int.reduceToNat, Int.reduceLT, Int.reduceLE, Int.reduceEq, reduceCtorEq, ↓reduceIte, X10_2, k10_2, b25, w65, w69, w82]
    cases b84 : (v83 : Bool)
    · replace h := br_f b84 h
      try simp -implicitDefEqProofs only [go_sem, Nat.reduceLT, Nat.reduceAdd, Nat.reduceSub, Nat.reduceMul, Nat.reduceEqDiff, Nat.reduceBEq, Nat.reduceLeDiff, Int.reduceToNat, Int.reduceLT, Int.reduceLE, Int.reduceEq, reduceCtorEq, ↓reduceIte, X10_2, k10_2, b25, w65, w69, w82, b84]
      obtain ⟨o, q101, h⟩ := bnd_some h
      rcases o with v103 | ⟨⟩
      · replace h := selS_l h
        have w102 := e10_9 a1 r8 (0, r8) (.inl v103) q101
        simp only [E10_9, X10_9] at w102
        try simp -implicitDefEqProofs only [go_sem, Nat.reduceLT, Nat.reduceAdd, Nat.reduceSub, Nat.reduceMul, Nat.reduceEqDiff, Nat.reduceBEq, Nat.reduceLeDiff, Int.reduceToNat, Int.reduceLT, Int.reduceLE, Int.reduceEq, reduceCtorEq, ↓reduceIte] at w102
        obtain ⟨v107, q105, h⟩ := bnd_some h
        have w106 := e10_10 a1 r8 v103 v107 q105
        simp only [X10_10] at w106
        try simp -implicitDefEqProofs only [go_sem, Nat.reduceLT, Nat.reduceAdd, Nat.reduceSub, Nat.reduceMul, Nat.reduceEqDiff, Nat.reduceBEq, Nat.reduceLeDiff, Int.reduceToNat, Int.reduceLT, Int.reduceLE, Int.reduceEq, reduceCtorEq, ↓reduceIte] at w106
        try simp -implicitDefEqProofs only [go_sem, Nat.reduceLT, Nat.reduceAdd, Nat.reduceSub, Nat.reduceMul, Nat.reduceEqDiff, Nat.reduceBEq, Nat.reduceLeDiff, Int.reduceToNat, Int.reduceLT, Int.reduceLE, Int.reduceEq, reduceCtorEq, ↓reduceIte, X10_2, k10_2, b25, w65, w69, w82, b84, w102, w106]
        cases b108 : (v107 : Bool)
        · replace h := br_f b108 h
          cases h
          simp -implicitDefEqProofs only [go_sem, Nat.reduceLT, Nat.reduceAdd, Nat.reduceSub, Nat.reduceMul, Nat.reduceEqDiff, Nat.reduceBEq, Nat.reduceLeDiff, Int.reduceToNat, Int.reduceLT, Int.reduceLE, Int.reduceEq, reduceCtorEq, ↓reduceIte, X10_2, k10_2, b25, w65, w69, w82, b84, w102, w106, b108]
        · replace h := br_t b108 h
          cases h
          simp -implicitDefEqProofs only [go_sem, Nat.reduceLT, Nat.reduceAdd, Nat.reduceSub, Nat.reduceMul, Nat.reduceEqDiff, Nat.reduceBEq, Nat.reduceLeDiff, Int.reduceToNat, Int.reduceLT, Int.reduceLE, Int.reduceEq, reduceCtorEq, ↓reduceIte, X10_2, k10_2, b25, w65, w69, w82, b84, w102, w106, b108]
      · replace h := selS_r h
        have w102 := e10_9 a1 r8 (0, r8) (.inr ()) q101
        simp only [E10_9, X10_9] at w102
        try simp -implicitDefEqProofs only [go_sem, Nat.reduceLT, Nat.reduceAdd, Nat.reduceSub, Nat.reduceMul, Nat.reduceEqDiff, Nat.reduceBEq, Nat.reduceLeDiff, Int.reduceToNat, Int.reduceLT, Int.reduceLE, Int.reduceEq, reduceCtorEq, ↓reduceIte] at w102
        cases h
        simp -implicitDefEqProofs only [go_sem, Nat.reduceLT, Nat.reduceAdd, Nat.reduceSub, Nat.reduceMul, Nat.reduceEqDiff, Nat.reduceBEq, Nat.reduceLeDiff, Int.reduceToNat, Int.reduceLT, Int.reduceLE, Int.reduceEq, reduceCtorEq, ↓reduceIte, X10_2, k10_2, b25, w65, w69, w82, b84, w102]
    · replace h := br_t b84 h
      cases h
      simp -implicitDefEqProofs only [go_sem, Nat.reduceLT, Nat.reduceAdd, Nat.reduceSub, Nat.reduceMul, Nat.reduceEqDiff, Nat.reduceBEq, Nat.reduceLeDiff, Int.reduceToNat, Int.reduceLT, Int.reduceLE, Int.reduceEq, reduceCtorEq, ↓reduceIte, X10_2, k10_2, b25, w65, w69, w82, b84]
def X10_11 (r119 : Bool) (r124 : Bool) (r131 : Bool) (r135 : Bool) (r113 : Session) (r117 : Session) (r118 : (List Int)) (r122 : Session) (r123 : (List Int)) (r130 : Session) (r134 : Session) (o : Bool) : Ex × Fr × St :=
  (.normal, frOf 225 (upd (upd (upd anyF 26 (.ptr 0 0 0)) 28 (.bool r119)) 218 (.bool o)), [some ⟨.box, 5, [[.int .i64 r117.state, .int .i64 r117.hold, .int .i64 r117.left, .int .i64 r117.quiet, .int .i64 r117.ups]]⟩])
theorem e10_11 (r119 : Bool) (r124 : Bool) (r131 : Bool) (r135 : Bool) (r113 : Session) (r117 : Session) (r118 : (List Int)) (r122 : Session) (r123 : (List Int)) (r130 : Session) (r134 : Session) (o : Bool) (h : m10_11 r119 r124 r131 r135 r113 r117 r118 r122 r123 r130 r134 = some o) : evCL T 0 k10_11 (frOf 225 (upd (upd (upd (upd (upd (upd (upd (upd (upd (upd (upd anyF 24 (.ptr 0 0 0)) 26 (.ptr 1 0 0)) 27 (.sl 2 0 r118.length)) 28 (.bool r119)) 29 (.ptr 3 0 0)) 30 (.sl 4 0 r123.length)) 31 (.bool r124)) 33 (.ptr 5 0 0)) 34 (.bool r131)) 35 (.ptr 6 0 0)) 36 (.bool r135))) [some ⟨.box, 5, [[.int .i64 r113.state, .int .i64 r113.hold, .int .i64 r113.left, .int .i64 r113.quiet, .int .i64 r113.ups]]⟩, some ⟨.box, 5, [[.int .i64 r117.state, .int .i64 r117.hold, .int .i64 r117.left, .int .i64 r117.quiet, .int .i64 r117.ups]]⟩, some ⟨.arr, 1, r118.map encInt⟩, some ⟨.box, 5, [[.int .i64 r122.state, .int .i64 r122.hold, .int .i64 r122.left, .int .i64 r122.quiet, .int .i64 r122.ups]]⟩, some ⟨.arr, 1, r123.map encInt⟩, some ⟨.box, 5, [[.int .i64 r130.state, .int .i64 r130.hold, .int .i64 r130.left, .int .i64 r130.quiet, .int .i64 r130.ups]]⟩, some ⟨.box, 5, [[.int .i64 r134.state, .int .i64 r134.hold, .int .i64 r134.left, .int .i64 r134.quiet, .int .i64 r134.ups]]⟩] = some (X10_11 r119 r124 r131 r135 r113 r117 r118 r122 r123 r130 r134 o) := by
  unfold m10_11 at h
  try simp -implicitDefEqProofs only [go_sem, Nat.reduceLT, Nat.reduceAdd, Nat.reduceSub, Nat.reduceMul, Nat.reduceEqDiff, Nat.reduceBEq, Nat.reduceLeDiff, Int.reduceToNat, Int.reduceLT, Int.reduceLE, Int.reduceEq, reduceCtorEq, ↓reduceIte, X10_11, k10_11]
  cases b136 : (eqB r119 r124 : Bool)
  · replace h := br_f b136 h
    cases h
    simp -implicitDefEqProofs only [go_sem, Nat.reduceLT, Nat.reduceAdd, Nat.reduceSub, Nat.reduceMul, Nat.reduceEqDiff, Nat.reduceBEq, Nat.reduceLeDiff, Int.reduceToNat, Int.reduceLT, Int.reduceLE, Int.reduceEq, reduceCtorEq, ↓reduceIte, X10_11, k10_11, b136]
  · replace h := br_t b136 h
    try simp -implicitDefEqProofs only [go_sem, Nat.reduceLT, Nat.reduceAdd, Nat.reduceSub, Nat.reduceMul, Nat.reduceEqDiff, Nat.reduceBEq, Nat.reduceLeDiff, Int.reduceToNat, Int.reduceLT, Int.reduceLE, Int.reduceEq, reduceCtorEq, ↓reduceIte, X10_11, k10_11, b136]
    cases b137 : (eqI r117.state r122.state && (eqI r117.hold r122.hold && (eqI r117.left r122.left && (eqI r117.quiet r122.quiet && eqI r117.ups r122.ups))) : Bool)
    · replace h := br_f b137 h
      cases h
      simp -implicitDefEqProofs only [go_sem, Nat.reduceLT, Nat.reduceAdd, Nat.reduceSub, Nat.reduceMul, Nat.reduceEqDiff, Nat.reduceBEq, Nat.reduceLeDiff, Int.reduceToNat, Int.reduceLT, Int.reduceLE, Int.reduceEq, reduceCtorEq, ↓reduceIte, X10_11, k10_11, b136, b137]
    · replace h := br_t b137 h
      obtain ⟨r140, q138, h⟩ := bnd_some h
      have w139 := e36 r118 r123 r140 q138
      try simp -implicitDefEqProofs only [go_sem, Nat.reduceLT, Nat.reduceAdd, Nat.reduceSub, Nat.reduceMul, Nat.reduceEqDiff, Nat.reduceBEq, Nat.reduceLeDiff, Int.reduceToNat, Int.reduceLT, Int.reduceLE, Int.reduceEq, reduceCtorEq, ↓reduceIte] at w139
      try simp -implicitDefEqProofs only [go_sem, Nat.reduceLT, Nat.reduceAdd, Nat.reduceSub, Nat.reduceMul, Nat.reduceEqDiff, Nat.reduceBEq, Nat.reduceLeDiff, Int.reduceToNat, Int.reduceLT, Int.reduceLE, Int.reduceEq, reduceCtorEq, ↓reduceIte, X10_11, k10_11, b136, b137, w139]
      cases b141 : (r140 : Bool)
      · replace h := br_f b141 h
        cases h
        simp -implicitDefEqProofs only [go_sem, Nat.reduceLT, Nat.reduceAdd, Nat.reduceSub, Nat.reduceMul, Nat.reduceEqDiff, Nat.reduceBEq, Nat.reduceLeDiff, Int.reduceToNat, Int.reduceLT, Int.reduceLE, Int.reduceEq, reduceCtorEq, ↓reduceIte, X10_11, k10_11, b136, b137, w139, b141]
      · replace h := br_t b141 h
        try simp -implicitDefEqProofs only [go_sem, Nat.reduceLT, Nat.reduceAdd, Nat.reduceSub, Nat.reduceMul, Nat.reduceEqDiff, Nat.reduceBEq, Nat.reduceLeDiff, Int.reduceToNat, Int.reduceLT, Int.reduceLE, Int.reduceEq, reduceCtorEq, ↓reduceIte, X10_11, k10_11, b136, b137, w139, b141]
        cases b142 : (eqB r131 r135 : Bool)
        · replace h := br_f b142 h
          cases h
          simp -implicitDefEqProofs only [go_sem, Nat.reduceLT, Nat.reduceAdd, Nat.reduceSub, Nat.reduceMul, Nat.reduceEqDiff, Nat.reduceBEq, Nat.reduceLeDiff, Int.reduceToNat, Int.reduceLT, Int.reduceLE, Int.reduceEq, reduceCtorEq, ↓reduceIte, X10_11, k10_11, b136, b137, w139, b141, b142]
        · replace h := br_t b142 h
          try simp -implicitDefEqProofs only [go_sem, Nat.reduceLT, Nat.reduceAdd, Nat.reduceSub, Nat.reduceMul, Nat.reduceEqDiff, Nat.reduceBEq, Nat.reduceLeDiff, Int.reduceToNat, Int.reduceLT, Int.reduceLE, Int.reduceEq, reduceCtorEq, ↓reduceIte, X10_11, k10_11, b136, b137, w139, b141, b142]
          cases b143 : (eqI r130.state r134.state && (eqI r130.hold r134.hold && (eqI r130.left r134.left && (eqI r130.quiet r134.quiet && eqI r130.ups r134.ups))) : Bool)
          · replace h := br_f b143 h
            cases h
            simp -implicitDefEqProofs only [go_sem, Nat.reduceLT, Nat.reduceAdd, Nat.reduceSub, Nat.reduceMul, Nat.reduceEqDiff, Nat.reduceBEq, Nat.reduceLeDiff, Int.reduceToNat, Int.reduceLT, Int.reduceLE, Int.reduceEq, reduceCtorEq, ↓reduceIte, X10_11, k10_11, b136, b137, w139, b141, b142, b143]
          · replace h := br_t b143 h
            obtain ⟨r146, q144, h⟩ := bnd_some h
            have w145 := e16 r113 r146 q144
            try simp -implicitDefEqProofs only [go_sem, Nat.reduceLT, Nat.reduceAdd, Nat.reduceSub, Nat.reduceMul, Nat.reduceEqDiff, Nat.reduceBEq, Nat.reduceLeDiff, Int.reduceToNat, Int.reduceLT, Int.reduceLE, Int.reduceEq, reduceCtorEq, ↓reduceIte] at w145
            obtain ⟨r149, q147, h⟩ := bnd_some h
            have w148 := e14 r113 r149 q147
            try simp -implicitDefEqProofs only [go_sem, Nat.reduceLT, Nat.reduceAdd, Nat.reduceSub, Nat.reduceMul, Nat.reduceEqDiff, Nat.reduceBEq, Nat.reduceLeDiff, Int.reduceToNat, Int.reduceLT, Int.reduceLE, Int.reduceEq, reduceCtorEq, ↓reduceIte] at w148
            cases h
            simp -implicitDefEqProofs only [go_sem, Nat.reduceLT, Nat.reduceAdd, Nat.reduceSub, Nat.reduceMul, Nat.reduceEqDiff, Nat.reduceBEq, Nat.reduceLeDiff, Int.reduceToNat, Int.reduceLT, Int.reduceLE, Int.reduceEq, reduceCtorEq, ↓reduceIte, X10_11, k10_11, b136, b137, w139, b141, b142, b143, w145, w148]
def X10_12 (r119 : Bool) (r117 : Session) (o : Bool) : Ex × Fr × St :=
  (.normal, frOf 225 (upd anyF 4 (.bool o)), [])
theorem e10_12 (r119 : Bool) (r117 : Session) (o : Bool) (h : m10_12 r119 r117 = some o) : evCL T 0 k10_12 (frOf 225 (upd (upd anyF 26 (.ptr 0 0 0)) 28 (.bool r119))) [some ⟨.box, 5, [[.int .i64 r117.state, .int .i64 r117.hold, .int .i64 r117.left, .int .i64 r117.quiet, .int .i64 r117.ups]]⟩] = some (X10_12 r119 r117 o) := by
  unfold m10_12 at h
  try simp -implicitDefEqProofs only [go_sem, Nat.reduceLT, Nat.reduceAdd, Nat.reduceSub, Nat.reduceMul, Nat.reduceEqDiff, Nat.reduceBEq, Nat.reduceLeDiff, Int.reduceToNat, Int.reduceLT, Int.reduceLE, Int.reduceEq, reduceCtorEq, ↓reduceIte, X10_12, k10_12]
  cases b154 : (r119 : Bool)
  · replace h := br_f b154 h
    cases h
    simp -implicitDefEqProofs only [go_sem, Nat.reduceLT, Nat.reduceAdd, Nat.reduceSub, Nat.reduceMul, Nat.reduceEqDiff, Nat.reduceBEq, Nat.reduceLeDiff, Int.reduceToNat, Int.reduceLT, Int.reduceLE, Int.reduceEq, reduceCtorEq, ↓reduceIte, X10_12, k10_12, b154]
  · replace h := br_t b154 h
    obtain ⟨r157, q155, h⟩ := bnd_some h
    have w156 := e16 r117 r157 q155
    try simp -implicitDefEqProofs only [go_sem, Nat.reduceLT, Nat.reduceAdd, Nat.reduceSub, Nat.reduceMul, Nat.reduceEqDiff, Nat.reduceBEq, Nat.reduceLeDiff, Int.reduceToNat, Int.reduceLT, Int.reduceLE, Int.reduceEq, reduceCtorEq, ↓reduceIte] at w156
    cases h
    simp -implicitDefEqProofs only [go_sem, Nat.reduceLT, Nat.reduceAdd, Nat.reduceSub, Nat.reduceMul, Nat.reduceEqDiff, Nat.reduceBEq, Nat.reduceLeDiff, Int.reduceToNat, Int.reduceLT, Int.reduceLE, Int.reduceEq, reduceCtorEq, ↓reduceIte, X10_12, k10_12, b154, w156]
theorem call10 (args : List AV) (S : St) : evCall T (evFL T) 10 args S = lendC (evFL T 10) S (lendAll S [[1], [1]] args) := evCall0 fn10 rfl rfl args S
theorem callz10 (args : List AV) (S : St) : evCallFz T (evFL T) 10 args S = lendZ (evFL T 10) S [[0]] (lendAll S [[1], [1]] args) := evCallFz0 fn10 rfl rfl args S
attribute [go_sem] call10 callz10
theorem e10 (a0 : (List Int)) (a1 : (List Int)) (r : Bool) (h : m10 a0 a1 = some r) : evFL T 10 [.ts .imm 1 (a0.map encIntu8), .ts .imm 1 (a1.map encIntu8)] [] = some (.bool r, []) := by
  unfold m10 at h
  rw [evFL_at fn10 (Nat.le_of_ble_eq_true rfl) rfl (.inr rfl)]
  try simp -implicitDefEqProofs only [go_sem, Nat.reduceLT, Nat.reduceAdd, Nat.reduceSub, Nat.reduceMul, Nat.reduceEqDiff, Nat.reduceBEq, Nat.reduceLeDiff, Int.reduceToNat, Int.reduceLT, Int.reduceLE, Int.reduceEq, reduceCtorEq, ↓reduceIte, i10, c10]
  cases b1 : (ltI 1048576 (wadd .i64 (↑a0.length : Int) (↑a1.length : Int)) : Bool)
  · replace h := br_f b1 h
    obtain ⟨⟨r4, r5⟩, q2, h⟩ := bnd_some h
    replace h := sel2_some h
    have w3 := e35 a0 (r4, r5) q2
    try simp -implicitDefEqProofs only [go_sem, Nat.reduceLT, Nat.reduceAdd, Nat.reduceSub, Nat.reduceMul, Nat.reduceEqDiff, Nat.reduceBEq, Nat.reduceLeDiff, Int.reduceToNat, Int.reduceLT, Int.reduceLE, Int.reduceEq, reduceCtorEq, ↓reduceIte] at w3
    obtain ⟨⟨r8, r9, r10⟩, q6, h⟩ := bnd_some h
    replace h := sel3_some h
    have w7 := e28 r4 r5 (r8, r9, r10) q6
    try simp -implicitDefEqProofs only [go_sem, Nat.reduceLT, Nat.reduceAdd, Nat.reduceSub, Nat.reduceMul, Nat.reduceEqDiff, Nat.reduceBEq, Nat.reduceLeDiff, Int.reduceToNat, Int.reduceLT, Int.reduceLE, Int.reduceEq, reduceCtorEq, ↓reduceIte] at w7
    obtain ⟨⟨r13, r14, r15⟩, q11, h⟩ := bnd_some h
    replace h := sel3_some h
    have w12 := e26 r4 r5 (r13, r14, r15) q11
    try simp -implicitDefEqProofs only [go_sem, Nat.reduceLT, Nat.reduceAdd, Nat.reduceSub, Nat.reduceMul, Nat.reduceEqDiff, Nat.reduceBEq, Nat.reduceLeDiff, Int.reduceToNat, Int.reduceLT, Int.reduceLE, Int.reduceEq, reduceCtorEq, ↓reduceIte] at w12
    obtain ⟨v23, q21, h⟩ := bnd_some h
    have w22 := e10_1 a1 r4 r10 r15 r5 r8 r9 r13 r14 v23 q21
    simp only [X10_1] at w22
    try simp -implicitDefEqProofs only [go_sem, Nat.reduceLT, Nat.reduceAdd, Nat.reduceSub, Nat.reduceMul, Nat.reduceEqDiff, Nat.reduceBEq, Nat.reduceLeDiff, Int.reduceToNat, Int.reduceLT, Int.reduceLE, Int.reduceEq, reduceCtorEq, ↓reduceIte] at w22
    try simp -implicitDefEqProofs only [go_sem, Nat.reduceLT, Nat.reduceAdd, Nat.reduceSub, Nat.reduceMul, Nat.reduceEqDiff, Nat.reduceBEq, Nat.reduceLeDiff, Int.reduceToNat, Int.reduceLT, Int.reduceLE, Int.reduceEq, reduceCtorEq, ↓reduceIte, i10, c10, b1, w3, w7, w12, w22]
    cases b24 : (v23 : Bool)
    · replace h := br_f b24 h
      try simp -implicitDefEqProofs only [go_sem, Nat.reduceLT, Nat.reduceAdd, Nat.reduceSub, Nat.reduceMul, Nat.reduceEqDiff, Nat.reduceBEq, Nat.reduceLeDiff, Int.reduceToNat, Int.reduceLT, Int.reduceLE, Int.reduceEq, reduceCtorEq, ↓reduceIte, i10, c10, b1, w3, w7, w12, w22, b24]
      obtain ⟨o, q109, h⟩ := bnd_some h
      rcases o with ⟨⟩ | ⟨⟩
      · replace h := selS_l h
        have w110 := e10_2 a1 r4 r10 r5 r8 (.inl ()) q109
        simp only [X10_2] at w110
        try simp -implicitDefEqProofs only [go_sem, Nat.reduceLT, Nat.reduceAdd, Nat.reduceSub, Nat.reduceMul, Nat.reduceEqDiff, Nat.reduceBEq, Nat.reduceLeDiff, Int.reduceToNat, Int.reduceLT, Int.reduceLE, Int.reduceEq, reduceCtorEq, ↓reduceIte] at w110
        obtain ⟨⟨r113, r114⟩, q111, h⟩ := bnd_some h
        replace h := sel2_some h
        have w112 := e37 a1 (r113, r114) q111
        try simp -implicitDefEqProofs only [go_sem, Nat.reduceLT, Nat.reduceAdd, Nat.reduceSub, Nat.reduceMul, Nat.reduceEqDiff, Nat.reduceBEq, Nat.reduceLeDiff, Int.reduceToNat, Int.reduceLT, Int.reduceLE, Int.reduceEq, reduceCtorEq, ↓reduceIte] at w112
        obtain ⟨⟨r117, r118, r119⟩, q115, h⟩ := bnd_some h
        replace h := sel3_some h
        have w116 := e21 r113 r114 (r117, r118, r119) q115
        try simp -implicitDefEqProofs only [go_sem, Nat.reduceLT, Nat.reduceAdd, Nat.reduceSub, Nat.reduceMul, Nat.reduceEqDiff, Nat.reduceBEq, Nat.reduceLeDiff, Int.reduceToNat, Int.reduceLT, Int.reduceLE, Int.reduceEq, reduceCtorEq, ↓reduceIte] at w116
        obtain ⟨⟨r122, r123, r124⟩, q120, h⟩ := bnd_some h
        replace h := sel3_some h
        have w121 := e19 r113 r114 (r122, r123, r124) q120
        try simp -implicitDefEqProofs only [go_sem, Nat.reduceLT, Nat.reduceAdd, Nat.reduceSub, Nat.reduceMul, Nat.reduceEqDiff, Nat.reduceBEq, Nat.reduceLeDiff, Int.reduceToNat, Int.reduceLT, Int.reduceLE, Int.reduceEq, reduceCtorEq, ↓reduceIte] at w121
        obtain ⟨r127, q125, h⟩ := bnd_some h
        have w126 := e38 a1 r127 q125
        try simp -implicitDefEqProofs only [go_sem, Nat.reduceLT, Nat.reduceAdd, Nat.reduceSub, Nat.reduceMul, Nat.reduceEqDiff, Nat.reduceBEq, Nat.reduceLeDiff, Int.reduceToNat, Int.reduceLT, Int.reduceLE, Int.reduceEq, reduceCtorEq, ↓reduceIte] at w126
        obtain ⟨⟨r130, r131⟩, q128, h⟩ := bnd_some h
        replace h := sel2_some h
        have w129 := e12 r127 (r130, r131) q128
        try simp -implicitDefEqProofs only [go_sem, Nat.reduceLT, Nat.reduceAdd, Nat.reduceSub, Nat.reduceMul, Nat.reduceEqDiff, Nat.reduceBEq, Nat.reduceLeDiff, Int.reduceToNat, Int.reduceLT, Int.reduceLE, Int.reduceEq, reduceCtorEq, ↓reduceIte] at w129
        obtain ⟨⟨r134, r135⟩, q132, h⟩ := bnd_some h
        replace h := sel2_some h
        have w133 := e11 r127 (r134, r135) q132
        try simp -implicitDefEqProofs only [go_sem, Nat.reduceLT, Nat.reduceAdd, Nat.reduceSub, Nat.reduceMul, Nat.reduceEqDiff, Nat.reduceBEq, Nat.reduceLeDiff, Int.reduceToNat, Int.reduceLT, Int.reduceLE, Int.reduceEq, reduceCtorEq, ↓reduceIte] at w133
        obtain ⟨v152, q150, h⟩ := bnd_some h
        have w151 := e10_11 r119 r124 r131 r135 r113 r117 r118 r122 r123 r130 r134 v152 q150
        simp only [X10_11] at w151
        try simp -implicitDefEqProofs only [go_sem, Nat.reduceLT, Nat.reduceAdd, Nat.reduceSub, Nat.reduceMul, Nat.reduceEqDiff, Nat.reduceBEq, Nat.reduceLeDiff, Int.reduceToNat, Int.reduceLT, Int.reduceLE, Int.reduceEq, reduceCtorEq, ↓reduceIte] at w151
        try simp -implicitDefEqProofs only [go_sem, Nat.reduceLT, Nat.reduceAdd, Nat.reduceSub, Nat.reduceMul, Nat.reduceEqDiff, Nat.reduceBEq, Nat.reduceLeDiff, Int.reduceToNat, Int.reduceLT, Int.reduceLE, Int.reduceEq, reduceCtorEq, ↓reduceIte, i10, c10, b1, w3, w7, w12, w22, b24, w110, w112, w116, w121, w126, w129, w133, w151]
        cases b153 : (v152 : Bool)
        · replace h := br_f b153 h
          obtain ⟨v160, q158, h⟩ := bnd_some h
          have w159 := e10_12 r119 r117 v160 q158
          simp only [X10_12] at w159
          try simp -implicitDefEqProofs only [go_sem, Nat.reduceLT, Nat.reduceAdd, Nat.reduceSub, Nat.reduceMul, Nat.reduceEqDiff, Nat.reduceBEq, Nat.reduceLeDiff, Int.reduceToNat, Int.reduceLT, Int.reduceLE, Int.reduceEq, reduceCtorEq, ↓reduceIte] at w159
          cases h
          simp -implicitDefEqProofs only [go_sem, Nat.reduceLT, Nat.reduceAdd, Nat.reduceSub, Nat.reduceMul, Nat.reduceEqDiff, Nat.reduceBEq, Nat.reduceLeDiff, Int.reduceToNat, Int.reduceLT, Int.reduceLE, Int.reduceEq, reduceCtorEq, ↓reduceIte, i10, c10, b1, w3, w7, w12, w22, b24, w110, w112, w116, w121, w126, w129, w133, w151, b153, w159]
        · replace h := br_t b153 h
          cases h
          simp -implicitDefEqProofs only [go_sem, Nat.reduceLT, Nat.reduceAdd, Nat.reduceSub, Nat.reduceMul, Nat.reduceEqDiff, Nat.reduceBEq, Nat.reduceLeDiff, Int.reduceToNat, Int.reduceLT, Int.reduceLE, Int.reduceEq, reduceCtorEq, ↓reduceIte, i10, c10, b1, w3, w7, w12, w22, b24, w110, w112, w116, w121, w126, w129, w133, w151, b153]
      · replace h := selS_r h
        have w110 := e10_2 a1 r4 r10 r5 r8 (.inr ()) q109
        simp only [X10_2] at w110
        try simp -implicitDefEqProofs only [go_sem, Nat.reduceLT, Nat.reduceAdd, Nat.reduceSub, Nat.reduceMul, Nat.reduceEqDiff, Nat.reduceBEq, Nat.reduceLeDiff, Int.reduceToNat, Int.reduceLT, Int.reduceLE, Int.reduceEq, reduceCtorEq, ↓reduceIte] at w110
        cases h
        simp -implicitDefEqProofs only [go_sem, Nat.reduceLT, Nat.reduceAdd, Nat.reduceSub, Nat.reduceMul, Nat.reduceEqDiff, Nat.reduceBEq, Nat.reduceLeDiff, Int.reduceToNat, Int.reduceLT, Int.reduceLE, Int.reduceEq, reduceCtorEq, ↓reduceIte, i10, c10, b1, w3, w7, w12, w22, b24, w110]
    · replace h := br_t b24 h
      cases h
      simp -implicitDefEqProofs only [go_sem, Nat.reduceLT, Nat.reduceAdd, Nat.reduceSub, Nat.reduceMul, Nat.reduceEqDiff, Nat.reduceBEq, Nat.reduceLeDiff, Int.reduceToNat, Int.reduceLT, Int.reduceLE, Int.reduceEq, reduceCtorEq, ↓reduceIte, i10, c10, b1, w3, w7, w12, w22, b24]
  · replace h := br_t b1 h
    cases h
    simp -implicitDefEqProofs only [go_sem, Nat.reduceLT, Nat.reduceAdd, Nat.reduceSub, Nat.reduceMul, Nat.reduceEqDiff, Nat.reduceBEq, Nat.reduceLeDiff, Int.reduceToNat, Int.reduceLT, Int.reduceLE, Int.reduceEq, reduceCtorEq, ↓reduceIte, i10, c10, b1]
end Go.Pi.Ytcihklkihglmjaa.FnSession
