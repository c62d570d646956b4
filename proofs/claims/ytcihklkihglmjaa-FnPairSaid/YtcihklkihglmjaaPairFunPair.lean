/- What functions of the program answer, and that the law answers true at every input; no condition -/
import Derived.Test.YtcihklkihglmjaaPairTabPair
import Derived.Test.YtcihklkihglmjaaPairModPair
set_option linter.all false
/- Functions of the program: that the code answers as the plain functions do. -/
namespace Go.Pi.Ytcihklkihglmjaa.Pair
open Go Go.Proofs Go.Pi
set_option maxRecDepth 100000
set_option linter.all false
def encIntu8 (x : Int) : List AV := [.int .u8 x]
attribute [go_sem] encIntu8
theorem sq_encIntu8 (q : Ql) (x : Int) : setQL q (encIntu8 x) = encIntu8 x := by simp [encIntu8]
theorem sqm_encIntu8 (q : Ql) (xs : List Int) : setQLL q (xs.map encIntu8) = xs.map encIntu8 := by rw [setQLL_map]; exact List.map_congr_left (fun x _ => sq_encIntu8 q x)
theorem ow_encIntu8 (x : Int) : ownOnlyL (encIntu8 x) = true := by simp [encIntu8, ownOnlyL, ownOnly, ownLL_map]
theorem owm_encIntu8 (xs : List Int) : ownOnlyLL (xs.map encIntu8) = true := ownLL_map _ ow_encIntu8 xs
theorem fi_encIntu8 (x : Int) : fine.fineL (encIntu8 x) = true := by simp [encIntu8, fine.fineL, fine, fineLL_map]
theorem fim_encIntu8 (xs : List Int) : fine.fineLL (xs.map encIntu8) = true := fineLL_map _ fi_encIntu8 xs
theorem nu_encIntu8 (x : Int) : nude.nudeL (encIntu8 x) = true := by simp [encIntu8, nude.nudeL, nude, nudeLL_map]
theorem num_encIntu8 (xs : List Int) : nude.nudeLL (xs.map encIntu8) = true := nudeLL_map _ nu_encIntu8 xs
theorem st_encIntu8 (q : Ql) (xs : List Int) : (xs.map encIntu8).map (fun x => x.map (setTop q)) = xs.map encIntu8 := by rw [List.map_map]; rfl
attribute [go_sem] st_encIntu8
attribute [simp] sqm_encIntu8 ow_encIntu8 owm_encIntu8 fi_encIntu8 fim_encIntu8 nu_encIntu8 num_encIntu8
attribute [go_sem] sqm_encIntu8 owm_encIntu8 fim_encIntu8 num_encIntu8
def encLIntu8 (q : Ql) (x : (List Int)) : List AV := [.ts q 1 (x.map encIntu8)]
attribute [go_sem] encLIntu8
theorem sq_encLIntu8 (q q1 : Ql) (x : (List Int)) : setQL q (encLIntu8 q1 x) = encLIntu8 q x := by simp [encLIntu8, sq_encIntu8]
theorem sqm_encLIntu8 (q q1 : Ql) (xs : List (List Int)) : setQLL q (xs.map (encLIntu8 q1)) = xs.map (encLIntu8 q) := by rw [setQLL_map]; exact List.map_congr_left (fun x _ => sq_encLIntu8 q q1 x)
theorem ow_encLIntu8 (x : (List Int)) : ownOnlyL (encLIntu8 .own x) = true := by simp [encLIntu8, ownOnlyL, ownOnly, ownLL_map]
theorem owm_encLIntu8 (xs : List (List Int)) : ownOnlyLL (xs.map (encLIntu8 .own)) = true := ownLL_map _ ow_encLIntu8 xs
theorem fi_encLIntu8 (x : (List Int)) : fine.fineL (encLIntu8 .own x) = true := by simp [encLIntu8, fine.fineL, fine, fineLL_map]
theorem fim_encLIntu8 (xs : List (List Int)) : fine.fineLL (xs.map (encLIntu8 .own)) = true := fineLL_map _ fi_encLIntu8 xs
theorem nu_encLIntu8 (x : (List Int)) : nude.nudeL (encLIntu8 .own x) = true := by simp [encLIntu8, nude.nudeL, nude, nudeLL_map]
theorem num_encLIntu8 (xs : List (List Int)) : nude.nudeLL (xs.map (encLIntu8 .own)) = true := nudeLL_map _ nu_encLIntu8 xs
theorem st_encLIntu8 (q q1 : Ql) (xs : List (List Int)) : (xs.map (encLIntu8 q1)).map (fun x => x.map (setTop q)) = xs.map (encLIntu8 q) := by rw [List.map_map]; rfl
attribute [go_sem] st_encLIntu8
attribute [simp] sqm_encLIntu8 ow_encLIntu8 owm_encLIntu8 fi_encLIntu8 fim_encLIntu8 nu_encLIntu8 num_encLIntu8
attribute [go_sem] sqm_encLIntu8 owm_encLIntu8 fim_encLIntu8 num_encLIntu8
def encBool (x : Bool) : List AV := [.bool x]
attribute [go_sem] encBool
theorem sq_encBool (q : Ql) (x : Bool) : setQL q (encBool x) = encBool x := by simp [encBool]
theorem sqm_encBool (q : Ql) (xs : List Bool) : setQLL q (xs.map encBool) = xs.map encBool := by rw [setQLL_map]; exact List.map_congr_left (fun x _ => sq_encBool q x)
theorem ow_encBool (x : Bool) : ownOnlyL (encBool x) = true := by simp [encBool, ownOnlyL, ownOnly, ownLL_map]
theorem owm_encBool (xs : List Bool) : ownOnlyLL (xs.map encBool) = true := ownLL_map _ ow_encBool xs
theorem fi_encBool (x : Bool) : fine.fineL (encBool x) = true := by simp [encBool, fine.fineL, fine, fineLL_map]
theorem fim_encBool (xs : List Bool) : fine.fineLL (xs.map encBool) = true := fineLL_map _ fi_encBool xs
theorem nu_encBool (x : Bool) : nude.nudeL (encBool x) = true := by simp [encBool, nude.nudeL, nude, nudeLL_map]
theorem num_encBool (xs : List Bool) : nude.nudeLL (xs.map encBool) = true := nudeLL_map _ nu_encBool xs
theorem st_encBool (q : Ql) (xs : List Bool) : (xs.map encBool).map (fun x => x.map (setTop q)) = xs.map encBool := by rw [List.map_map]; rfl
attribute [go_sem] st_encBool
attribute [simp] sqm_encBool ow_encBool owm_encBool fi_encBool fim_encBool nu_encBool num_encBool
attribute [go_sem] sqm_encBool owm_encBool fim_encBool num_encBool
def encInt (x : Int) : List AV := [.int .i64 x]
attribute [go_sem] encInt
theorem sq_encInt (q : Ql) (x : Int) : setQL q (encInt x) = encInt x := by simp [encInt]
theorem sqm_encInt (q : Ql) (xs : List Int) : setQLL q (xs.map encInt) = xs.map encInt := by rw [setQLL_map]; exact List.map_congr_left (fun x _ => sq_encInt q x)
theorem ow_encInt (x : Int) : ownOnlyL (encInt x) = true := by simp [encInt, ownOnlyL, ownOnly, ownLL_map]
theorem owm_encInt (xs : List Int) : ownOnlyLL (xs.map encInt) = true := ownLL_map _ ow_encInt xs
theorem fi_encInt (x : Int) : fine.fineL (encInt x) = true := by simp [encInt, fine.fineL, fine, fineLL_map]
theorem fim_encInt (xs : List Int) : fine.fineLL (xs.map encInt) = true := fineLL_map _ fi_encInt xs
theorem nu_encInt (x : Int) : nude.nudeL (encInt x) = true := by simp [encInt, nude.nudeL, nude, nudeLL_map]
theorem num_encInt (xs : List Int) : nude.nudeLL (xs.map encInt) = true := nudeLL_map _ nu_encInt xs
theorem st_encInt (q : Ql) (xs : List Int) : (xs.map encInt).map (fun x => x.map (setTop q)) = xs.map encInt := by rw [List.map_map]; rfl
attribute [go_sem] st_encInt
attribute [simp] sqm_encInt ow_encInt owm_encInt fi_encInt fim_encInt nu_encInt num_encInt
attribute [go_sem] sqm_encInt owm_encInt fim_encInt num_encInt
def encLInt (q : Ql) (x : (List Int)) : List AV := [.ts q 1 (x.map encInt)]
attribute [go_sem] encLInt
theorem sq_encLInt (q q1 : Ql) (x : (List Int)) : setQL q (encLInt q1 x) = encLInt q x := by simp [encLInt, sq_encInt]
theorem sqm_encLInt (q q1 : Ql) (xs : List (List Int)) : setQLL q (xs.map (encLInt q1)) = xs.map (encLInt q) := by rw [setQLL_map]; exact List.map_congr_left (fun x _ => sq_encLInt q q1 x)
theorem ow_encLInt (x : (List Int)) : ownOnlyL (encLInt .own x) = true := by simp [encLInt, ownOnlyL, ownOnly, ownLL_map]
theorem owm_encLInt (xs : List (List Int)) : ownOnlyLL (xs.map (encLInt .own)) = true := ownLL_map _ ow_encLInt xs
theorem fi_encLInt (x : (List Int)) : fine.fineL (encLInt .own x) = true := by simp [encLInt, fine.fineL, fine, fineLL_map]
theorem fim_encLInt (xs : List (List Int)) : fine.fineLL (xs.map (encLInt .own)) = true := fineLL_map _ fi_encLInt xs
theorem nu_encLInt (x : (List Int)) : nude.nudeL (encLInt .own x) = true := by simp [encLInt, nude.nudeL, nude, nudeLL_map]
theorem num_encLInt (xs : List (List Int)) : nude.nudeLL (xs.map (encLInt .own)) = true := nudeLL_map _ nu_encLInt xs
theorem st_encLInt (q q1 : Ql) (xs : List (List Int)) : (xs.map (encLInt q1)).map (fun x => x.map (setTop q)) = xs.map (encLInt q) := by rw [List.map_map]; rfl
attribute [go_sem] st_encLInt
attribute [simp] sqm_encLInt ow_encLInt owm_encLInt fi_encLInt fim_encLInt nu_encLInt num_encLInt
attribute [go_sem] sqm_encLInt owm_encLInt fim_encLInt num_encLInt
def encIntu64 (x : Int) : List AV := [.int .u64 x]
attribute [go_sem] encIntu64
theorem sq_encIntu64 (q : Ql) (x : Int) : setQL q (encIntu64 x) = encIntu64 x := by simp [encIntu64]
theorem sqm_encIntu64 (q : Ql) (xs : List Int) : setQLL q (xs.map encIntu64) = xs.map encIntu64 := by rw [setQLL_map]; exact List.map_congr_left (fun x _ => sq_encIntu64 q x)
theorem ow_encIntu64 (x : Int) : ownOnlyL (encIntu64 x) = true := by simp [encIntu64, ownOnlyL, ownOnly, ownLL_map]
theorem owm_encIntu64 (xs : List Int) : ownOnlyLL (xs.map encIntu64) = true := ownLL_map _ ow_encIntu64 xs
theorem fi_encIntu64 (x : Int) : fine.fineL (encIntu64 x) = true := by simp [encIntu64, fine.fineL, fine, fineLL_map]
theorem fim_encIntu64 (xs : List Int) : fine.fineLL (xs.map encIntu64) = true := fineLL_map _ fi_encIntu64 xs
theorem nu_encIntu64 (x : Int) : nude.nudeL (encIntu64 x) = true := by simp [encIntu64, nude.nudeL, nude, nudeLL_map]
theorem num_encIntu64 (xs : List Int) : nude.nudeLL (xs.map encIntu64) = true := nudeLL_map _ nu_encIntu64 xs
theorem st_encIntu64 (q : Ql) (xs : List Int) : (xs.map encIntu64).map (fun x => x.map (setTop q)) = xs.map encIntu64 := by rw [List.map_map]; rfl
attribute [go_sem] st_encIntu64
attribute [simp] sqm_encIntu64 ow_encIntu64 owm_encIntu64 fi_encIntu64 fim_encIntu64 nu_encIntu64 num_encIntu64
attribute [go_sem] sqm_encIntu64 owm_encIntu64 fim_encIntu64 num_encIntu64
def encl1Cur (q : Ql) (x : l1Cur) : List AV := [.ts q 1 (x.code.map encIntu8), .int .i64 x.at_, .int .u64 x.seed]
attribute [go_sem] encl1Cur
theorem sq_encl1Cur (q q1 : Ql) (x : l1Cur) : setQL q (encl1Cur q1 x) = encl1Cur q x := by simp [encl1Cur, sq_encIntu8]
theorem sqm_encl1Cur (q q1 : Ql) (xs : List l1Cur) : setQLL q (xs.map (encl1Cur q1)) = xs.map (encl1Cur q) := by rw [setQLL_map]; exact List.map_congr_left (fun x _ => sq_encl1Cur q q1 x)
theorem ow_encl1Cur (x : l1Cur) : ownOnlyL (encl1Cur .own x) = true := by simp [encl1Cur, ownOnlyL, ownOnly, ownLL_map]
theorem owm_encl1Cur (xs : List l1Cur) : ownOnlyLL (xs.map (encl1Cur .own)) = true := ownLL_map _ ow_encl1Cur xs
theorem fi_encl1Cur (x : l1Cur) : fine.fineL (encl1Cur .own x) = true := by simp [encl1Cur, fine.fineL, fine, fineLL_map]
theorem fim_encl1Cur (xs : List l1Cur) : fine.fineLL (xs.map (encl1Cur .own)) = true := fineLL_map _ fi_encl1Cur xs
theorem nu_encl1Cur (x : l1Cur) : nude.nudeL (encl1Cur .own x) = true := by simp [encl1Cur, nude.nudeL, nude, nudeLL_map]
theorem num_encl1Cur (xs : List l1Cur) : nude.nudeLL (xs.map (encl1Cur .own)) = true := nudeLL_map _ nu_encl1Cur xs
theorem st_encl1Cur (q q1 : Ql) (xs : List l1Cur) : (xs.map (encl1Cur q1)).map (fun x => x.map (setTop q)) = xs.map (encl1Cur q) := by rw [List.map_map]; rfl
attribute [go_sem] st_encl1Cur
attribute [simp] sqm_encl1Cur ow_encl1Cur owm_encl1Cur fi_encl1Cur fim_encl1Cur nu_encl1Cur num_encl1Cur
attribute [go_sem] sqm_encl1Cur owm_encl1Cur fim_encl1Cur num_encl1Cur
def encSession (x : Session) : List AV := [.int .i64 x.state, .int .i64 x.hold, .int .i64 x.left, .int .i64 x.quiet, .int .i64 x.ups]
attribute [go_sem] encSession
theorem sq_encSession (q : Ql) (x : Session) : setQL q (encSession x) = encSession x := by simp [encSession]
theorem sqm_encSession (q : Ql) (xs : List Session) : setQLL q (xs.map encSession) = xs.map encSession := by rw [setQLL_map]; exact List.map_congr_left (fun x _ => sq_encSession q x)
theorem ow_encSession (x : Session) : ownOnlyL (encSession x) = true := by simp [encSession, ownOnlyL, ownOnly, ownLL_map]
theorem owm_encSession (xs : List Session) : ownOnlyLL (xs.map encSession) = true := ownLL_map _ ow_encSession xs
theorem fi_encSession (x : Session) : fine.fineL (encSession x) = true := by simp [encSession, fine.fineL, fine, fineLL_map]
theorem fim_encSession (xs : List Session) : fine.fineLL (xs.map encSession) = true := fineLL_map _ fi_encSession xs
theorem nu_encSession (x : Session) : nude.nudeL (encSession x) = true := by simp [encSession, nude.nudeL, nude, nudeLL_map]
theorem num_encSession (xs : List Session) : nude.nudeLL (xs.map encSession) = true := nudeLL_map _ nu_encSession xs
theorem st_encSession (q : Ql) (xs : List Session) : (xs.map encSession).map (fun x => x.map (setTop q)) = xs.map encSession := by rw [List.map_map]; rfl
attribute [go_sem] st_encSession
attribute [simp] sqm_encSession ow_encSession owm_encSession fi_encSession fim_encSession nu_encSession num_encSession
attribute [go_sem] sqm_encSession owm_encSession fim_encSession num_encSession
def encside (q : Ql) (x : side) : List AV := [.int .i64 x.session.state, .int .i64 x.session.hold, .int .i64 x.session.left, .int .i64 x.session.quiet, .int .i64 x.session.ups, .int .i64 x.began, .ts q 1 (x.heard.map encInt)]
attribute [go_sem] encside
theorem sq_encside (q q1 : Ql) (x : side) : setQL q (encside q1 x) = encside q x := by simp [encside, sq_encInt]
theorem sqm_encside (q q1 : Ql) (xs : List side) : setQLL q (xs.map (encside q1)) = xs.map (encside q) := by rw [setQLL_map]; exact List.map_congr_left (fun x _ => sq_encside q q1 x)
theorem ow_encside (x : side) : ownOnlyL (encside .own x) = true := by simp [encside, ownOnlyL, ownOnly, ownLL_map]
theorem owm_encside (xs : List side) : ownOnlyLL (xs.map (encside .own)) = true := ownLL_map _ ow_encside xs
theorem fi_encside (x : side) : fine.fineL (encside .own x) = true := by simp [encside, fine.fineL, fine, fineLL_map]
theorem fim_encside (xs : List side) : fine.fineLL (xs.map (encside .own)) = true := fineLL_map _ fi_encside xs
theorem nu_encside (x : side) : nude.nudeL (encside .own x) = true := by simp [encside, nude.nudeL, nude, nudeLL_map]
theorem num_encside (xs : List side) : nude.nudeLL (xs.map (encside .own)) = true := nudeLL_map _ nu_encside xs
theorem st_encside (q q1 : Ql) (xs : List side) : (xs.map (encside q1)).map (fun x => x.map (setTop q)) = xs.map (encside q) := by rw [List.map_map]; rfl
attribute [go_sem] st_encside
attribute [simp] sqm_encside ow_encside owm_encside fi_encside fim_encside nu_encside num_encside
attribute [go_sem] sqm_encside owm_encside fim_encside num_encside
def encEvt (x : Evt) : List AV := [.int .i64 x.kind, .int .i64 x.n]
attribute [go_sem] encEvt
theorem sq_encEvt (q : Ql) (x : Evt) : setQL q (encEvt x) = encEvt x := by simp [encEvt]
theorem sqm_encEvt (q : Ql) (xs : List Evt) : setQLL q (xs.map encEvt) = xs.map encEvt := by rw [setQLL_map]; exact List.map_congr_left (fun x _ => sq_encEvt q x)
theorem ow_encEvt (x : Evt) : ownOnlyL (encEvt x) = true := by simp [encEvt, ownOnlyL, ownOnly, ownLL_map]
theorem owm_encEvt (xs : List Evt) : ownOnlyLL (xs.map encEvt) = true := ownLL_map _ ow_encEvt xs
theorem fi_encEvt (x : Evt) : fine.fineL (encEvt x) = true := by simp [encEvt, fine.fineL, fine, fineLL_map]
theorem fim_encEvt (xs : List Evt) : fine.fineLL (xs.map encEvt) = true := fineLL_map _ fi_encEvt xs
theorem nu_encEvt (x : Evt) : nude.nudeL (encEvt x) = true := by simp [encEvt, nude.nudeL, nude, nudeLL_map]
theorem num_encEvt (xs : List Evt) : nude.nudeLL (xs.map encEvt) = true := nudeLL_map _ nu_encEvt xs
theorem st_encEvt (q : Ql) (xs : List Evt) : (xs.map encEvt).map (fun x => x.map (setTop q)) = xs.map encEvt := by rw [List.map_map]; rfl
attribute [go_sem] st_encEvt
attribute [simp] sqm_encEvt ow_encEvt owm_encEvt fi_encEvt fim_encEvt nu_encEvt num_encEvt
attribute [go_sem] sqm_encEvt owm_encEvt fim_encEvt num_encEvt
def encl12Side (q : Ql) (x : l12Side) : List AV := [.int .i64 x.s.state, .int .i64 x.s.hold, .int .i64 x.s.left, .int .i64 x.s.quiet, .int .i64 x.s.ups, .ts q 1 (x.in_.map encInt), .int .i64 x.asks]
attribute [go_sem] encl12Side
theorem sq_encl12Side (q q1 : Ql) (x : l12Side) : setQL q (encl12Side q1 x) = encl12Side q x := by simp [encl12Side, sq_encInt]
theorem sqm_encl12Side (q q1 : Ql) (xs : List l12Side) : setQLL q (xs.map (encl12Side q1)) = xs.map (encl12Side q) := by rw [setQLL_map]; exact List.map_congr_left (fun x _ => sq_encl12Side q q1 x)
theorem ow_encl12Side (x : l12Side) : ownOnlyL (encl12Side .own x) = true := by simp [encl12Side, ownOnlyL, ownOnly, ownLL_map]
theorem owm_encl12Side (xs : List l12Side) : ownOnlyLL (xs.map (encl12Side .own)) = true := ownLL_map _ ow_encl12Side xs
theorem fi_encl12Side (x : l12Side) : fine.fineL (encl12Side .own x) = true := by simp [encl12Side, fine.fineL, fine, fineLL_map]
theorem fim_encl12Side (xs : List l12Side) : fine.fineLL (xs.map (encl12Side .own)) = true := fineLL_map _ fi_encl12Side xs
theorem nu_encl12Side (x : l12Side) : nude.nudeL (encl12Side .own x) = true := by simp [encl12Side, nude.nudeL, nude, nudeLL_map]
theorem num_encl12Side (xs : List l12Side) : nude.nudeLL (xs.map (encl12Side .own)) = true := nudeLL_map _ nu_encl12Side xs
theorem st_encl12Side (q q1 : Ql) (xs : List l12Side) : (xs.map (encl12Side q1)).map (fun x => x.map (setTop q)) = xs.map (encl12Side q) := by rw [List.map_map]; rfl
attribute [go_sem] st_encl12Side
attribute [simp] sqm_encl12Side ow_encl12Side owm_encl12Side fi_encl12Side fim_encl12Side nu_encl12Side num_encl12Side
attribute [go_sem] sqm_encl12Side owm_encl12Side fim_encl12Side num_encl12Side
-- f65 (*spec.l1Cur).next
def X65_1 (p1 : Bool) (a0 : l1Cur) (o : Int) : Ex × Fr × St :=
  (.normal, frOf 62 (upd (upd anyF 0 (.ptr 0 0 0)) 3 (.int .i64 o)), [some ⟨.box, 3, [[.ts .imm 1 (a0.code.map encIntu8), .int .i64 a0.at_, .int .u64 a0.seed]]⟩])
theorem e65_1 (p1 : Bool) (a0 : l1Cur) (o : Int) (h : m65_1 p1 a0 = some o) : evCL T 1 k65_1 (frOf 62 (upd (upd (upd anyF 0 (.ptr 0 0 0)) 3 (.int .i64 0)) 13 (.bool p1))) [some ⟨.box, 3, [[.ts .imm 1 (a0.code.map encIntu8), .int .i64 a0.at_, .int .u64 a0.seed]]⟩] = some (X65_1 p1 a0 o) := by
  unfold m65_1 at h
  try simp -implicitDefEqProofs only [go_sem, Nat.reduceLT, Nat.reduceAdd, Nat.reduceSub, Nat.reduceMul, Nat.reduceEqDiff, Nat.reduceBEq, Nat.reduceLeDiff, Int.reduceToNat, Int.reduceLT, Int.reduceLE, Int.reduceEq, reduceCtorEq, ↓reduceIte, X65_1, k65_1]
  cases b2 : (p1 : Bool)
  · replace h := br_f b2 h
    cases h
    simp -implicitDefEqProofs only [go_sem, Nat.reduceLT, Nat.reduceAdd, Nat.reduceSub, Nat.reduceMul, Nat.reduceEqDiff, Nat.reduceBEq, Nat.reduceLeDiff, Int.reduceToNat, Int.reduceLT, Int.reduceLE, Int.reduceEq, reduceCtorEq, ↓reduceIte, X65_1, k65_1, b2]
  · replace h := br_t b2 h
    obtain ⟨x3, q4, h⟩ := bnd_some h
    obtain ⟨g5, g6, g7⟩ := idx_row encIntu8 q4
    try simp -implicitDefEqProofs only [go_sem, Nat.reduceLT, Nat.reduceAdd, Nat.reduceSub, Nat.reduceMul, Nat.reduceEqDiff, Nat.reduceBEq, Nat.reduceLeDiff, Int.reduceToNat, Int.reduceLT, Int.reduceLE, Int.reduceEq, reduceCtorEq, ↓reduceIte] at g6
    try simp -implicitDefEqProofs only [go_sem, Nat.reduceLT, Nat.reduceAdd, Nat.reduceSub, Nat.reduceMul, Nat.reduceEqDiff, Nat.reduceBEq, Nat.reduceLeDiff, Int.reduceToNat, Int.reduceLT, Int.reduceLE, Int.reduceEq, reduceCtorEq, ↓reduceIte] at g7
    cases h
    simp -implicitDefEqProofs only [go_sem, Nat.reduceLT, Nat.reduceAdd, Nat.reduceSub, Nat.reduceMul, Nat.reduceEqDiff, Nat.reduceBEq, Nat.reduceLeDiff, Int.reduceToNat, Int.reduceLT, Int.reduceLE, Int.reduceEq, reduceCtorEq, ↓reduceIte, X65_1, k65_1, b2, g5, g6, g7]
theorem call65 (args : List AV) (S : St) : evCall T (evFL T) 65 args S = c3A true (evFL T 65) (rawAll S [[0]] args) := evCall3_a fn65 rfl args S
attribute [go_sem] call65
theorem e65 (a0 : l1Cur) (r : (Int × Int × Int)) (h : m65 a0 = some r) : evFL T 65 [.ptr 0 0 0] [some ⟨.box, 3, [[.ts .imm 1 (a0.code.map encIntu8), .int .i64 a0.at_, .int .u64 a0.seed]]⟩] = some (.int .i64 r.1, [some ⟨.box, 3, [[.ts .imm 1 (a0.code.map encIntu8), .int .i64 r.2.1, .int .u64 r.2.2]]⟩]) := by
  unfold m65 at h
  rw [evFL_at fn65 (Nat.le_of_ble_eq_true rfl) rfl (.inl rfl)]
  obtain ⟨v10, q8, h⟩ := bnd_some h
  have w9 := e65_1 (ltI a0.at_ (↑a0.code.length : Int)) a0 v10 q8
  simp only [X65_1] at w9
  try simp -implicitDefEqProofs only [go_sem, Nat.reduceLT, Nat.reduceAdd, Nat.reduceSub, Nat.reduceMul, Nat.reduceEqDiff, Nat.reduceBEq, Nat.reduceLeDiff, Int.reduceToNat, Int.reduceLT, Int.reduceLE, Int.reduceEq, reduceCtorEq, ↓reduceIte] at w9
  try simp -implicitDefEqProofs only [go_sem, Nat.reduceLT, Nat.reduceAdd, Nat.reduceSub, Nat.reduceMul, Nat.reduceEqDiff, Nat.reduceBEq, Nat.reduceLeDiff, Int.reduceToNat, Int.reduceLT, Int.reduceLE, Int.reduceEq, reduceCtorEq, ↓reduceIte, i65, c65, w9]
  cases b11 : (leI (wadd .i64 a0.at_ 1) (↑a0.code.length : Int) : Bool)
  · replace h := br_f b11 h
    cases h
    simp -implicitDefEqProofs only [go_sem, Nat.reduceLT, Nat.reduceAdd, Nat.reduceSub, Nat.reduceMul, Nat.reduceEqDiff, Nat.reduceBEq, Nat.reduceLeDiff, Int.reduceToNat, Int.reduceLT, Int.reduceLE, Int.reduceEq, reduceCtorEq, ↓reduceIte, i65, c65, w9, b11]
  · replace h := br_t b11 h
    cases h
    simp -implicitDefEqProofs only [go_sem, Nat.reduceLT, Nat.reduceAdd, Nat.reduceSub, Nat.reduceMul, Nat.reduceEqDiff, Nat.reduceBEq, Nat.reduceLeDiff, Int.reduceToNat, Int.reduceLT, Int.reduceLE, Int.reduceEq, reduceCtorEq, ↓reduceIte, i65, c65, w9, b11]
-- f55 (*spec.l1Cur).pick
def X55_1 (a1 : Int) (r4 : Int) (p7 : Bool) (a0 : l1Cur) (r5 : Int) (r6 : Int) (o : (Int × Int × Int)) : Ex × Fr × St :=
  (.normal, frOf 20 (upd (upd anyF 1 (.int .i64 a1)) 5 (.int .i64 o.1)), [some ⟨.box, 3, [[.ts .imm 1 (a0.code.map encIntu8), .int .i64 o.2.1, .int .u64 o.2.2]]⟩])
theorem e55_1 (a1 : Int) (r4 : Int) (p7 : Bool) (a0 : l1Cur) (r5 : Int) (r6 : Int) (o : (Int × Int × Int)) (h : m55_1 r4 p7 a0 r5 r6 = some o) : evCL T 1 k55_1 (frOf 20 (upd (upd (upd (upd anyF 0 (.ptr 0 0 0)) 1 (.int .i64 a1)) 5 (.int .i64 r4)) 11 (.bool p7))) [some ⟨.box, 3, [[.ts .imm 1 (a0.code.map encIntu8), .int .i64 r5, .int .u64 r6]]⟩] = some (X55_1 a1 r4 p7 a0 r5 r6 o) := by
  unfold m55_1 at h
  try simp -implicitDefEqProofs only [go_sem, Nat.reduceLT, Nat.reduceAdd, Nat.reduceSub, Nat.reduceMul, Nat.reduceEqDiff, Nat.reduceBEq, Nat.reduceLeDiff, Int.reduceToNat, Int.reduceLT, Int.reduceLE, Int.reduceEq, reduceCtorEq, ↓reduceIte, X55_1, k55_1]
  cases b8 : (p7 : Bool)
  · replace h := br_f b8 h
    cases h
    simp -implicitDefEqProofs only [go_sem, Nat.reduceLT, Nat.reduceAdd, Nat.reduceSub, Nat.reduceMul, Nat.reduceEqDiff, Nat.reduceBEq, Nat.reduceLeDiff, Int.reduceToNat, Int.reduceLT, Int.reduceLE, Int.reduceEq, reduceCtorEq, ↓reduceIte, X55_1, k55_1, b8]
  · replace h := br_t b8 h
    obtain ⟨⟨r11, r12, r13⟩, q9, h⟩ := bnd_some h
    replace h := sel3_some h
    have w10 := e65 (⟨a0.code, r5, r6⟩ : l1Cur) (r11, r12, r13) q9
    try simp -implicitDefEqProofs only [go_sem, Nat.reduceLT, Nat.reduceAdd, Nat.reduceSub, Nat.reduceMul, Nat.reduceEqDiff, Nat.reduceBEq, Nat.reduceLeDiff, Int.reduceToNat, Int.reduceLT, Int.reduceLE, Int.reduceEq, reduceCtorEq, ↓reduceIte] at w10
    cases h
    simp -implicitDefEqProofs only [go_sem, Nat.reduceLT, Nat.reduceAdd, Nat.reduceSub, Nat.reduceMul, Nat.reduceEqDiff, Nat.reduceBEq, Nat.reduceLeDiff, Int.reduceToNat, Int.reduceLT, Int.reduceLE, Int.reduceEq, reduceCtorEq, ↓reduceIte, X55_1, k55_1, b8, w10]
theorem call55 (args : List AV) (S : St) : evCall T (evFL T) 55 args S = c3A true (evFL T 55) (rawAll S [[0], [0]] args) := evCall3_a fn55 rfl args S
attribute [go_sem] call55
theorem e55 (a0 : l1Cur) (a1 : Int) (r : (Int × Int × Int)) (h : m55 a0 a1 = some r) : evFL T 55 [.ptr 0 0 0, .int .i64 a1] [some ⟨.box, 3, [[.ts .imm 1 (a0.code.map encIntu8), .int .i64 a0.at_, .int .u64 a0.seed]]⟩] = some (.int .i64 r.1, [some ⟨.box, 3, [[.ts .imm 1 (a0.code.map encIntu8), .int .i64 r.2.1, .int .u64 r.2.2]]⟩]) := by
  unfold m55 at h
  rw [evFL_at fn55 (Nat.le_of_ble_eq_true rfl) rfl (.inl rfl)]
  try simp -implicitDefEqProofs only [go_sem, Nat.reduceLT, Nat.reduceAdd, Nat.reduceSub, Nat.reduceMul, Nat.reduceEqDiff, Nat.reduceBEq, Nat.reduceLeDiff, Int.reduceToNat, Int.reduceLT, Int.reduceLE, Int.reduceEq, reduceCtorEq, ↓reduceIte, i55, c55]
  cases b1 : (leI a1 1 : Bool)
  · replace h := br_f b1 h
    obtain ⟨⟨r4, r5, r6⟩, q2, h⟩ := bnd_some h
    replace h := sel3_some h
    have w3 := e65 a0 (r4, r5, r6) q2
    try simp -implicitDefEqProofs only [go_sem, Nat.reduceLT, Nat.reduceAdd, Nat.reduceSub, Nat.reduceMul, Nat.reduceEqDiff, Nat.reduceBEq, Nat.reduceLeDiff, Int.reduceToNat, Int.reduceLT, Int.reduceLE, Int.reduceEq, reduceCtorEq, ↓reduceIte] at w3
    obtain ⟨⟨v16, v17, v18⟩, q14, h⟩ := bnd_some h
    replace h := sel3_some h
    have w15 := e55_1 a1 r4 (ltI 200 a1) a0 r5 r6 (v16, v17, v18) q14
    simp only [X55_1] at w15
    try simp -implicitDefEqProofs only [go_sem, Nat.reduceLT, Nat.reduceAdd, Nat.reduceSub, Nat.reduceMul, Nat.reduceEqDiff, Nat.reduceBEq, Nat.reduceLeDiff, Int.reduceToNat, Int.reduceLT, Int.reduceLE, Int.reduceEq, reduceCtorEq, ↓reduceIte] at w15
    obtain ⟨g19, h⟩ := ck_some h
    try simp -implicitDefEqProofs only [go_sem, Nat.reduceLT, Nat.reduceAdd, Nat.reduceSub, Nat.reduceMul, Nat.reduceEqDiff, Nat.reduceBEq, Nat.reduceLeDiff, Int.reduceToNat, Int.reduceLT, Int.reduceLE, Int.reduceEq, reduceCtorEq, ↓reduceIte] at g19
    cases h
    simp -implicitDefEqProofs only [go_sem, Nat.reduceLT, Nat.reduceAdd, Nat.reduceSub, Nat.reduceMul, Nat.reduceEqDiff, Nat.reduceBEq, Nat.reduceLeDiff, Int.reduceToNat, Int.reduceLT, Int.reduceLE, Int.reduceEq, reduceCtorEq, ↓reduceIte, i55, c55, b1, w3, w15, g19]
  · replace h := br_t b1 h
    cases h
    simp -implicitDefEqProofs only [go_sem, Nat.reduceLT, Nat.reduceAdd, Nat.reduceSub, Nat.reduceMul, Nat.reduceEqDiff, Nat.reduceBEq, Nat.reduceLeDiff, Int.reduceToNat, Int.reduceLT, Int.reduceLE, Int.reduceEq, reduceCtorEq, ↓reduceIte, i55, c55, b1]
-- f56 (*spec.l1Cur).one
theorem call56 (args : List AV) (S : St) : evCall T (evFL T) 56 args S = c3A true (evFL T 56) (rawAll S [[0], [0]] args) := evCall3_a fn56 rfl args S
attribute [go_sem] call56
theorem e56 (a0 : l1Cur) (a1 : Int) (r : (Bool × Int × Int)) (h : m56 a0 a1 = some r) : evFL T 56 [.ptr 0 0 0, .int .i64 a1] [some ⟨.box, 3, [[.ts .imm 1 (a0.code.map encIntu8), .int .i64 a0.at_, .int .u64 a0.seed]]⟩] = some (.bool r.1, [some ⟨.box, 3, [[.ts .imm 1 (a0.code.map encIntu8), .int .i64 r.2.1, .int .u64 r.2.2]]⟩]) := by
  unfold m56 at h
  rw [evFL_at fn56 (Nat.le_of_ble_eq_true rfl) rfl (.inl rfl)]
  obtain ⟨⟨r3, r4, r5⟩, q1, h⟩ := bnd_some h
  replace h := sel3_some h
  have w2 := e55 a0 a1 (r3, r4, r5) q1
  try simp -implicitDefEqProofs only [go_sem, Nat.reduceLT, Nat.reduceAdd, Nat.reduceSub, Nat.reduceMul, Nat.reduceEqDiff, Nat.reduceBEq, Nat.reduceLeDiff, Int.reduceToNat, Int.reduceLT, Int.reduceLE, Int.reduceEq, reduceCtorEq, ↓reduceIte] at w2
  cases h
  simp -implicitDefEqProofs only [go_sem, Nat.reduceLT, Nat.reduceAdd, Nat.reduceSub, Nat.reduceMul, Nat.reduceEqDiff, Nat.reduceBEq, Nat.reduceLeDiff, Int.reduceToNat, Int.reduceLT, Int.reduceLE, Int.reduceEq, reduceCtorEq, ↓reduceIte, i56, c56, w2]
-- f57 (*spec.l1Cur).among
theorem call57 (args : List AV) (S : St) : evCall T (evFL T) 57 args S = c3A true (evFL T 57) (rawAll S [[0], [1]] args) := evCall3_a fn57 rfl args S
attribute [go_sem] call57
theorem e57 (a0 : l1Cur) (a1 : (List Int)) (r : (Int × Int × Int)) (h : m57 a0 a1 = some r) : evFL T 57 [.ptr 0 0 0, .sl 1 0 a1.length] [some ⟨.box, 3, [[.ts .imm 1 (a0.code.map encIntu8), .int .i64 a0.at_, .int .u64 a0.seed]]⟩, some ⟨.arr, 1, a1.map encInt⟩] = some (.int .i64 r.1, [some ⟨.box, 3, [[.ts .imm 1 (a0.code.map encIntu8), .int .i64 r.2.1, .int .u64 r.2.2]]⟩, some ⟨.arr, 1, a1.map encInt⟩]) := by
  unfold m57 at h
  rw [evFL_at fn57 (Nat.le_of_ble_eq_true rfl) rfl (.inl rfl)]
  obtain ⟨⟨r3, r4, r5⟩, q1, h⟩ := bnd_some h
  replace h := sel3_some h
  have w2 := e55 a0 (↑a1.length : Int) (r3, r4, r5) q1
  try simp -implicitDefEqProofs only [go_sem, Nat.reduceLT, Nat.reduceAdd, Nat.reduceSub, Nat.reduceMul, Nat.reduceEqDiff, Nat.reduceBEq, Nat.reduceLeDiff, Int.reduceToNat, Int.reduceLT, Int.reduceLE, Int.reduceEq, reduceCtorEq, ↓reduceIte] at w2
  obtain ⟨x6, q7, h⟩ := bnd_some h
  obtain ⟨g8, g9, g10⟩ := idx_row encInt q7
  try simp -implicitDefEqProofs only [go_sem, Nat.reduceLT, Nat.reduceAdd, Nat.reduceSub, Nat.reduceMul, Nat.reduceEqDiff, Nat.reduceBEq, Nat.reduceLeDiff, Int.reduceToNat, Int.reduceLT, Int.reduceLE, Int.reduceEq, reduceCtorEq, ↓reduceIte] at g9
  try simp -implicitDefEqProofs only [go_sem, Nat.reduceLT, Nat.reduceAdd, Nat.reduceSub, Nat.reduceMul, Nat.reduceEqDiff, Nat.reduceBEq, Nat.reduceLeDiff, Int.reduceToNat, Int.reduceLT, Int.reduceLE, Int.reduceEq, reduceCtorEq, ↓reduceIte] at g10
  cases h
  simp -implicitDefEqProofs only [go_sem, Nat.reduceLT, Nat.reduceAdd, Nat.reduceSub, Nat.reduceMul, Nat.reduceEqDiff, Nat.reduceBEq, Nat.reduceLeDiff, Int.reduceToNat, Int.reduceLT, Int.reduceLE, Int.reduceEq, reduceCtorEq, ↓reduceIte, i57, c57, w2, g8, g9, g10]
-- f34 spec.DrawPlayPair
def X34_1 (r3 : Int) (r8 : Bool) (a0 : (List Int)) (r9 : Int) (r10 : Int) (o : (Int × Int × Int)) : Ex × Fr × St :=
  (.normal, frOf 44 (upd (upd (upd anyF 5 (.ptr 0 0 0)) 6 (.sl 1 0 0)) 7 (.int .i64 o.1)), [some ⟨.box, 3, [[.ts .imm 1 (a0.map encIntu8), .int .i64 o.2.1, .int .u64 o.2.2]]⟩, some ⟨.arr, 1, []⟩])
theorem e34_1 (r3 : Int) (r8 : Bool) (a0 : (List Int)) (r9 : Int) (r10 : Int) (o : (Int × Int × Int)) (h : m34_1 r3 r8 a0 r9 r10 = some o) : evCL T 0 k34_1 (frOf 44 (upd (upd (upd (upd anyF 5 (.ptr 0 0 0)) 6 (.sl 1 0 0)) 7 (.int .i64 r3)) 14 (.bool r8))) [some ⟨.box, 3, [[.ts .imm 1 (a0.map encIntu8), .int .i64 r9, .int .u64 r10]]⟩, some ⟨.arr, 1, []⟩] = some (X34_1 r3 r8 a0 r9 r10 o) := by
  unfold m34_1 at h
  try simp -implicitDefEqProofs only [go_sem, Nat.reduceLT, Nat.reduceAdd, Nat.reduceSub, Nat.reduceMul, Nat.reduceEqDiff, Nat.reduceBEq, Nat.reduceLeDiff, Int.reduceToNat, Int.reduceLT, Int.reduceLE, Int.reduceEq, reduceCtorEq, ↓reduceIte, X34_1, k34_1]
  cases b11 : (r8 : Bool)
  · replace h := br_f b11 h
    cases h
    simp -implicitDefEqProofs only [go_sem, Nat.reduceLT, Nat.reduceAdd, Nat.reduceSub, Nat.reduceMul, Nat.reduceEqDiff, Nat.reduceBEq, Nat.reduceLeDiff, Int.reduceToNat, Int.reduceLT, Int.reduceLE, Int.reduceEq, reduceCtorEq, ↓reduceIte, X34_1, k34_1, b11]
  · replace h := br_t b11 h
    obtain ⟨⟨r14, r15, r16⟩, q12, h⟩ := bnd_some h
    replace h := sel3_some h
    have w13 := e55 (⟨a0, r9, r10⟩ : l1Cur) 2 (r14, r15, r16) q12
    try simp -implicitDefEqProofs only [go_sem, Nat.reduceLT, Nat.reduceAdd, Nat.reduceSub, Nat.reduceMul, Nat.reduceEqDiff, Nat.reduceBEq, Nat.reduceLeDiff, Int.reduceToNat, Int.reduceLT, Int.reduceLE, Int.reduceEq, reduceCtorEq, ↓reduceIte] at w13
    cases h
    simp -implicitDefEqProofs only [go_sem, Nat.reduceLT, Nat.reduceAdd, Nat.reduceSub, Nat.reduceMul, Nat.reduceEqDiff, Nat.reduceBEq, Nat.reduceLeDiff, Int.reduceToNat, Int.reduceLT, Int.reduceLE, Int.reduceEq, reduceCtorEq, ↓reduceIte, X34_1, k34_1, b11, w13]
def X34_2 (a0 : (List Int)) (o : (Int × Int × List Int)) : Ex × Fr × St :=
  (.exit 0, frOf 44 (upd (upd anyF 5 (.ptr 0 0 0)) 6 (.sl 1 0 o.2.2.length)), [some ⟨.box, 3, [[.ts .imm 1 (a0.map encIntu8), .int .i64 o.1, .int .u64 o.2.1]]⟩, some ⟨.arr, 1, o.2.2.map encInt⟩])
def E34_2 (a0 : (List Int)) (s : (Int × Int × Int × List Int)) : Fr × St := (frOf 44 (upd (upd (upd anyF 5 (.ptr 0 0 0)) 6 (.sl 1 0 s.2.2.2.length)) 7 (.int .i64 s.1)), [some ⟨.box, 3, [[.ts .imm 1 (a0.map encIntu8), .int .i64 s.2.1, .int .u64 s.2.2.1]]⟩, some ⟨.arr, 1, s.2.2.2.map encInt⟩])
theorem b34_2 (a0 : (List Int)) (s : (Int × Int × Int × List Int)) (o : Ctl (Int × Int × Int × List Int) (Int × Int × List Int)) (h : m34_2b a0 s = some o) : evCL T 0 k34_2b (E34_2 a0 s).1 (E34_2 a0 s).2 = some (ctlX (E34_2 a0) (X34_2 a0) o) := by
  unfold m34_2b at h
  obtain ⟨s28, s29, s30, s31⟩ := s
  replace h := sel4_some h
  try simp -implicitDefEqProofs only [go_sem, Nat.reduceLT, Nat.reduceAdd, Nat.reduceSub, Nat.reduceMul, Nat.reduceEqDiff, Nat.reduceBEq, Nat.reduceLeDiff, Int.reduceToNat, Int.reduceLT, Int.reduceLE, Int.reduceEq, reduceCtorEq, ↓reduceIte, E34_2, X34_2, k34_2b]
  cases b32 : (ltI 0 s28 : Bool)
  · replace h := br_f b32 h
    cases h
    simp -implicitDefEqProofs only [go_sem, Nat.reduceLT, Nat.reduceAdd, Nat.reduceSub, Nat.reduceMul, Nat.reduceEqDiff, Nat.reduceBEq, Nat.reduceLeDiff, Int.reduceToNat, Int.reduceLT, Int.reduceLE, Int.reduceEq, reduceCtorEq, ↓reduceIte, E34_2, X34_2, k34_2b, b32]
  · replace h := br_t b32 h
    obtain ⟨⟨r35, r36, r37⟩, q33, h⟩ := bnd_some h
    replace h := sel3_some h
    have w34 := e57 (⟨a0, s29, s30⟩ : l1Cur) [0, 1, 1, 2, 2] (r35, r36, r37) q33
    try simp -implicitDefEqProofs only [go_sem, Nat.reduceLT, Nat.reduceAdd, Nat.reduceSub, Nat.reduceMul, Nat.reduceEqDiff, Nat.reduceBEq, Nat.reduceLeDiff, Int.reduceToNat, Int.reduceLT, Int.reduceLE, Int.reduceEq, reduceCtorEq, ↓reduceIte] at w34
    obtain ⟨g38, h⟩ := ck_some h
    try simp -implicitDefEqProofs only [go_sem, Nat.reduceLT, Nat.reduceAdd, Nat.reduceSub, Nat.reduceMul, Nat.reduceEqDiff, Nat.reduceBEq, Nat.reduceLeDiff, Int.reduceToNat, Int.reduceLT, Int.reduceLE, Int.reduceEq, reduceCtorEq, ↓reduceIte] at g38
    cases h
    simp -implicitDefEqProofs only [go_sem, Nat.reduceLT, Nat.reduceAdd, Nat.reduceSub, Nat.reduceMul, Nat.reduceEqDiff, Nat.reduceBEq, Nat.reduceLeDiff, Int.reduceToNat, Int.reduceLT, Int.reduceLE, Int.reduceEq, reduceCtorEq, ↓reduceIte, E34_2, X34_2, k34_2b, b32, w34, g38]
theorem e34_2 (a0 : (List Int)) (s : (Int × Int × Int × List Int)) (o : (Int × Int × List Int)) (h : loopP (m34_2b a0) s = some o) : evCL T 0 (.loop k34_2b) (E34_2 a0 s).1 (E34_2 a0 s).2 = some (X34_2 a0 o) :=
  loop_walk (E := E34_2 a0) (X := X34_2 a0) (by intro b; (simp only [X34_2]; nofun)) (b34_2 a0) s o h
def X34_3 (a0 : (List Int)) (v41 : Int) (v42 : Int) (v43 : List Int) (o : (Bool × Int × Int)) : Ex × Fr × St :=
  (.normal, frOf 44 (upd (upd (upd anyF 5 (.ptr 0 0 0)) 6 (.sl 1 0 v43.length)) 34 (.bool o.1)), [some ⟨.box, 3, [[.ts .imm 1 (a0.map encIntu8), .int .i64 o.2.1, .int .u64 o.2.2]]⟩, some ⟨.arr, 1, v43.map encInt⟩])
theorem e34_3 (a0 : (List Int)) (v41 : Int) (v42 : Int) (v43 : List Int) (o : (Bool × Int × Int)) (h : m34_3 a0 v41 v42 v43 = some o) : evCL T 0 k34_3 (frOf 44 (upd (upd anyF 5 (.ptr 0 0 0)) 6 (.sl 1 0 v43.length))) [some ⟨.box, 3, [[.ts .imm 1 (a0.map encIntu8), .int .i64 v41, .int .u64 v42]]⟩, some ⟨.arr, 1, v43.map encInt⟩] = some (X34_3 a0 v41 v42 v43 o) := by
  unfold m34_3 at h
  try simp -implicitDefEqProofs only [go_sem, Nat.reduceLT, Nat.reduceAdd, Nat.reduceSub, Nat.reduceMul, Nat.reduceEqDiff, Nat.reduceBEq, Nat.reduceLeDiff, Int.reduceToNat, Int.reduceLT, Int.reduceLE, Int.reduceEq, reduceCtorEq, ↓reduceIte, X34_3, k34_3]
  cases b44 : (ltI 0 (↑v43.length : Int) : Bool)
  · replace h := br_f b44 h
    cases h
    simp -implicitDefEqProofs only [go_sem, Nat.reduceLT, Nat.reduceAdd, Nat.reduceSub, Nat.reduceMul, Nat.reduceEqDiff, Nat.reduceBEq, Nat.reduceLeDiff, Int.reduceToNat, Int.reduceLT, Int.reduceLE, Int.reduceEq, reduceCtorEq, ↓reduceIte, X34_3, k34_3, b44]
  · replace h := br_t b44 h
    obtain ⟨⟨r47, r48, r49⟩, q45, h⟩ := bnd_some h
    replace h := sel3_some h
    have w46 := e56 (⟨a0, v41, v42⟩ : l1Cur) 30 (r47, r48, r49) q45
    try simp -implicitDefEqProofs only [go_sem, Nat.reduceLT, Nat.reduceAdd, Nat.reduceSub, Nat.reduceMul, Nat.reduceEqDiff, Nat.reduceBEq, Nat.reduceLeDiff, Int.reduceToNat, Int.reduceLT, Int.reduceLE, Int.reduceEq, reduceCtorEq, ↓reduceIte] at w46
    cases h
    simp -implicitDefEqProofs only [go_sem, Nat.reduceLT, Nat.reduceAdd, Nat.reduceSub, Nat.reduceMul, Nat.reduceEqDiff, Nat.reduceBEq, Nat.reduceLeDiff, Int.reduceToNat, Int.reduceLT, Int.reduceLE, Int.reduceEq, reduceCtorEq, ↓reduceIte, X34_3, k34_3, b44, w46]
def X34_4 (v52 : Bool) (a0 : (List Int)) (v53 : Int) (v54 : Int) (v43 : List Int) (o : (List Int)) : Ex × Fr × St :=
  (.normal, frOf 44 (upd (upd anyF 5 (.ptr 0 0 0)) 6 (.sl 1 0 o.length)), [some ⟨.box, 3, [[.ts .imm 1 (a0.map encIntu8), .int .i64 v53, .int .u64 v54]]⟩, some ⟨.arr, 1, o.map encInt⟩])
theorem e34_4 (v52 : Bool) (a0 : (List Int)) (v53 : Int) (v54 : Int) (v43 : List Int) (o : (List Int)) (h : m34_4 v52 v43 = some o) : evCL T 0 k34_4 (frOf 44 (upd (upd (upd anyF 5 (.ptr 0 0 0)) 6 (.sl 1 0 v43.length)) 34 (.bool v52))) [some ⟨.box, 3, [[.ts .imm 1 (a0.map encIntu8), .int .i64 v53, .int .u64 v54]]⟩, some ⟨.arr, 1, v43.map encInt⟩] = some (X34_4 v52 a0 v53 v54 v43 o) := by
  unfold m34_4 at h
  try simp -implicitDefEqProofs only [go_sem, Nat.reduceLT, Nat.reduceAdd, Nat.reduceSub, Nat.reduceMul, Nat.reduceEqDiff, Nat.reduceBEq, Nat.reduceLeDiff, Int.reduceToNat, Int.reduceLT, Int.reduceLE, Int.reduceEq, reduceCtorEq, ↓reduceIte, X34_4, k34_4]
  cases b55 : (v52 : Bool)
  · replace h := br_f b55 h
    cases h
    simp -implicitDefEqProofs only [go_sem, Nat.reduceLT, Nat.reduceAdd, Nat.reduceSub, Nat.reduceMul, Nat.reduceEqDiff, Nat.reduceBEq, Nat.reduceLeDiff, Int.reduceToNat, Int.reduceLT, Int.reduceLE, Int.reduceEq, reduceCtorEq, ↓reduceIte, X34_4, k34_4, b55]
  · replace h := br_t b55 h
    obtain ⟨x56, q57, h⟩ := bnd_some h
    obtain ⟨g58, g59, g60⟩ := idx_row encInt q57
    try simp -implicitDefEqProofs only [go_sem, Nat.reduceLT, Nat.reduceAdd, Nat.reduceSub, Nat.reduceMul, Nat.reduceEqDiff, Nat.reduceBEq, Nat.reduceLeDiff, Int.reduceToNat, Int.reduceLT, Int.reduceLE, Int.reduceEq, reduceCtorEq, ↓reduceIte] at g59
    try simp -implicitDefEqProofs only [go_sem, Nat.reduceLT, Nat.reduceAdd, Nat.reduceSub, Nat.reduceMul, Nat.reduceEqDiff, Nat.reduceBEq, Nat.reduceLeDiff, Int.reduceToNat, Int.reduceLT, Int.reduceLE, Int.reduceEq, reduceCtorEq, ↓reduceIte] at g60
    cases h
    simp -implicitDefEqProofs only [go_sem, Nat.reduceLT, Nat.reduceAdd, Nat.reduceSub, Nat.reduceMul, Nat.reduceEqDiff, Nat.reduceBEq, Nat.reduceLeDiff, Int.reduceToNat, Int.reduceLT, Int.reduceLE, Int.reduceEq, reduceCtorEq, ↓reduceIte, X34_4, k34_4, b55, g58, g59, g60]
theorem call34 (args : List AV) (S : St) : evCall T (evFL T) 34 args S = lendC (evFL T 34) S (lendAll S [[1]] args) := evCall0 fn34 rfl rfl args S
theorem callz34 (args : List AV) (S : St) : evCallFz T (evFL T) 34 args S = lendZ (evFL T 34) S [[0], [0], [1]] (lendAll S [[1]] args) := evCallFz0 fn34 rfl rfl args S
attribute [go_sem] call34 callz34
theorem e34 (a0 : (List Int)) (r : (Int × Int × (List Int))) (h : m34 a0 = some r) : evFL T 34 [.ts .imm 1 (a0.map encIntu8)] [] = some (.tup [.int .i64 r.1, .int .i64 r.2.1, .sl 0 0 r.2.2.length], [some ⟨.arr, 1, r.2.2.map encInt⟩]) := by
  unfold m34 at h
  rw [evFL_at fn34 (Nat.le_of_ble_eq_true rfl) rfl (.inr rfl)]
  obtain ⟨⟨r3, r4, r5⟩, q1, h⟩ := bnd_some h
  replace h := sel3_some h
  have w2 := e55 (⟨a0, 0, 0⟩ : l1Cur) 30 (r3, r4, r5) q1
  try simp -implicitDefEqProofs only [go_sem, Nat.reduceLT, Nat.reduceAdd, Nat.reduceSub, Nat.reduceMul, Nat.reduceEqDiff, Nat.reduceBEq, Nat.reduceLeDiff, Int.reduceToNat, Int.reduceLT, Int.reduceLE, Int.reduceEq, reduceCtorEq, ↓reduceIte] at w2
  obtain ⟨⟨r8, r9, r10⟩, q6, h⟩ := bnd_some h
  replace h := sel3_some h
  have w7 := e56 (⟨a0, r4, r5⟩ : l1Cur) 20 (r8, r9, r10) q6
  try simp -implicitDefEqProofs only [go_sem, Nat.reduceLT, Nat.reduceAdd, Nat.reduceSub, Nat.reduceMul, Nat.reduceEqDiff, Nat.reduceBEq, Nat.reduceLeDiff, Int.reduceToNat, Int.reduceLT, Int.reduceLE, Int.reduceEq, reduceCtorEq, ↓reduceIte] at w7
  obtain ⟨⟨v19, v20, v21⟩, q17, h⟩ := bnd_some h
  replace h := sel3_some h
  have w18 := e34_1 r3 r8 a0 r9 r10 (v19, v20, v21) q17
  simp only [X34_1] at w18
  try simp -implicitDefEqProofs only [go_sem, Nat.reduceLT, Nat.reduceAdd, Nat.reduceSub, Nat.reduceMul, Nat.reduceEqDiff, Nat.reduceBEq, Nat.reduceLeDiff, Int.reduceToNat, Int.reduceLT, Int.reduceLE, Int.reduceEq, reduceCtorEq, ↓reduceIte] at w18
  obtain ⟨⟨v41, v42, v43⟩, q39, h⟩ := bnd_some h
  replace h := sel3_some h
  have w40 := e34_2 a0 (v19, v20, v21, []) (v41, v42, v43) q39
  simp only [E34_2, X34_2] at w40
  try simp -implicitDefEqProofs only [go_sem, Nat.reduceLT, Nat.reduceAdd, Nat.reduceSub, Nat.reduceMul, Nat.reduceEqDiff, Nat.reduceBEq, Nat.reduceLeDiff, Int.reduceToNat, Int.reduceLT, Int.reduceLE, Int.reduceEq, reduceCtorEq, ↓reduceIte] at w40
  obtain ⟨⟨v52, v53, v54⟩, q50, h⟩ := bnd_some h
  replace h := sel3_some h
  have w51 := e34_3 a0 v41 v42 v43 (v52, v53, v54) q50
  simp only [X34_3] at w51
  try simp -implicitDefEqProofs only [go_sem, Nat.reduceLT, Nat.reduceAdd, Nat.reduceSub, Nat.reduceMul, Nat.reduceEqDiff, Nat.reduceBEq, Nat.reduceLeDiff, Int.reduceToNat, Int.reduceLT, Int.reduceLE, Int.reduceEq, reduceCtorEq, ↓reduceIte] at w51
  obtain ⟨v63, q61, h⟩ := bnd_some h
  have w62 := e34_4 v52 a0 v53 v54 v43 v63 q61
  simp only [X34_4] at w62
  try simp -implicitDefEqProofs only [go_sem, Nat.reduceLT, Nat.reduceAdd, Nat.reduceSub, Nat.reduceMul, Nat.reduceEqDiff, Nat.reduceBEq, Nat.reduceLeDiff, Int.reduceToNat, Int.reduceLT, Int.reduceLE, Int.reduceEq, reduceCtorEq, ↓reduceIte] at w62
  obtain ⟨⟨r66, r67, r68⟩, q64, h⟩ := bnd_some h
  replace h := sel3_some h
  have w65 := e57 (⟨a0, v53, v54⟩ : l1Cur) [3, 9, 30, 90, 2] (r66, r67, r68) q64
  try simp -implicitDefEqProofs only [go_sem, Nat.reduceLT, Nat.reduceAdd, Nat.reduceSub, Nat.reduceMul, Nat.reduceEqDiff, Nat.reduceBEq, Nat.reduceLeDiff, Int.reduceToNat, Int.reduceLT, Int.reduceLE, Int.reduceEq, reduceCtorEq, ↓reduceIte] at w65
  obtain ⟨⟨r71, r72, r73⟩, q69, h⟩ := bnd_some h
  replace h := sel3_some h
  have w70 := e57 (⟨a0, r67, r68⟩ : l1Cur) [3, 9, 30, 90] (r71, r72, r73) q69
  try simp -implicitDefEqProofs only [go_sem, Nat.reduceLT, Nat.reduceAdd, Nat.reduceSub, Nat.reduceMul, Nat.reduceEqDiff, Nat.reduceBEq, Nat.reduceLeDiff, Int.reduceToNat, Int.reduceLT, Int.reduceLE, Int.reduceEq, reduceCtorEq, ↓reduceIte] at w70
  cases h
  simp -implicitDefEqProofs only [go_sem, Nat.reduceLT, Nat.reduceAdd, Nat.reduceSub, Nat.reduceMul, Nat.reduceEqDiff, Nat.reduceBEq, Nat.reduceLeDiff, Int.reduceToNat, Int.reduceLT, Int.reduceLE, Int.reduceEq, reduceCtorEq, ↓reduceIte, i34, c34, w2, w7, w18, w40, w51, w62, w65, w70]
-- f40 impl.within
def X40_1 (a0 : Int) (a1 : Int) (a2 : Int) (o : Bool) : Ex × Fr × St :=
  (.normal, frOf 15 (upd anyF 6 (.bool o)), [])
theorem e40_1 (a0 : Int) (a1 : Int) (a2 : Int) (o : Bool) (h : m40_1 a0 a1 a2 = some o) : evCL T 0 k40_1 (frOf 15 (upd (upd (upd anyF 0 (.int .i64 a0)) 1 (.int .i64 a1)) 2 (.int .i64 a2))) [] = some (X40_1 a0 a1 a2 o) := by
  unfold m40_1 at h
  try simp -implicitDefEqProofs only [go_sem, Nat.reduceLT, Nat.reduceAdd, Nat.reduceSub, Nat.reduceMul, Nat.reduceEqDiff, Nat.reduceBEq, Nat.reduceLeDiff, Int.reduceToNat, Int.reduceLT, Int.reduceLE, Int.reduceEq, reduceCtorEq, ↓reduceIte, X40_1, k40_1]
  cases b1 : (leI a1 a0 : Bool)
  · replace h := br_f b1 h
    cases h
    simp -implicitDefEqProofs only [go_sem, Nat.reduceLT, Nat.reduceAdd, Nat.reduceSub, Nat.reduceMul, Nat.reduceEqDiff, Nat.reduceBEq, Nat.reduceLeDiff, Int.reduceToNat, Int.reduceLT, Int.reduceLE, Int.reduceEq, reduceCtorEq, ↓reduceIte, X40_1, k40_1, b1]
  · replace h := br_t b1 h
    cases h
    simp -implicitDefEqProofs only [go_sem, Nat.reduceLT, Nat.reduceAdd, Nat.reduceSub, Nat.reduceMul, Nat.reduceEqDiff, Nat.reduceBEq, Nat.reduceLeDiff, Int.reduceToNat, Int.reduceLT, Int.reduceLE, Int.reduceEq, reduceCtorEq, ↓reduceIte, X40_1, k40_1, b1]
theorem call40 (args : List AV) (S : St) : evCall T (evFL T) 40 args S = lendC (evFL T 40) S (lendAll S [[0], [0], [0]] args) := evCall0 fn40 rfl rfl args S
theorem callz40 (args : List AV) (S : St) : evCallFz T (evFL T) 40 args S = lendZ (evFL T 40) S [[0]] (lendAll S [[0], [0], [0]] args) := evCallFz0 fn40 rfl rfl args S
attribute [go_sem] call40 callz40
theorem e40 (a0 : Int) (a1 : Int) (a2 : Int) (r : Bool) (h : m40 a0 a1 a2 = some r) : evFL T 40 [.int .i64 a0, .int .i64 a1, .int .i64 a2] [] = some (.bool r, []) := by
  unfold m40 at h
  rw [evFL_at fn40 (Nat.le_of_ble_eq_true rfl) rfl (.inr rfl)]
  obtain ⟨v4, q2, h⟩ := bnd_some h
  have w3 := e40_1 a0 a1 a2 v4 q2
  simp only [X40_1] at w3
  try simp -implicitDefEqProofs only [go_sem, Nat.reduceLT, Nat.reduceAdd, Nat.reduceSub, Nat.reduceMul, Nat.reduceEqDiff, Nat.reduceBEq, Nat.reduceLeDiff, Int.reduceToNat, Int.reduceLT, Int.reduceLE, Int.reduceEq, reduceCtorEq, ↓reduceIte] at w3
  cases h
  simp -implicitDefEqProofs only [go_sem, Nat.reduceLT, Nat.reduceAdd, Nat.reduceSub, Nat.reduceMul, Nat.reduceEqDiff, Nat.reduceBEq, Nat.reduceLeDiff, Int.reduceToNat, Int.reduceLT, Int.reduceLE, Int.reduceEq, reduceCtorEq, ↓reduceIte, i40, c40, w3]
-- f12 impl.NewSession
theorem call12 (args : List AV) (S : St) : evCall T (evFL T) 12 args S = lendC (evFL T 12) S (lendAll S [[0]] args) := evCall0 fn12 rfl rfl args S
theorem callz12 (args : List AV) (S : St) : evCallFz T (evFL T) 12 args S = lendZ (evFL T 12) S [[0, 0, 0, 0, 0], [0]] (lendAll S [[0]] args) := evCallFz0 fn12 rfl rfl args S
attribute [go_sem] call12 callz12
theorem e12 (a0 : Int) (r : (Session × Bool)) (h : m12 a0 = some r) : evFL T 12 [.int .i64 a0] [] = some (.tup [.agg [.int .i64 r.1.state, .int .i64 r.1.hold, .int .i64 r.1.left, .int .i64 r.1.quiet, .int .i64 r.1.ups], .bool r.2], []) := by
  unfold m12 at h
  rw [evFL_at fn12 (Nat.le_of_ble_eq_true rfl) rfl (.inr rfl)]
  obtain ⟨r3, q1, h⟩ := bnd_some h
  have w2 := e40 a0 3 90 r3 q1
  try simp -implicitDefEqProofs only [go_sem, Nat.reduceLT, Nat.reduceAdd, Nat.reduceSub, Nat.reduceMul, Nat.reduceEqDiff, Nat.reduceBEq, Nat.reduceLeDiff, Int.reduceToNat, Int.reduceLT, Int.reduceLE, Int.reduceEq, reduceCtorEq, ↓reduceIte] at w2
  try simp -implicitDefEqProofs only [go_sem, Nat.reduceLT, Nat.reduceAdd, Nat.reduceSub, Nat.reduceMul, Nat.reduceEqDiff, Nat.reduceBEq, Nat.reduceLeDiff, Int.reduceToNat, Int.reduceLT, Int.reduceLE, Int.reduceEq, reduceCtorEq, ↓reduceIte, i12, c12, w2]
  cases b4 : (r3 : Bool)
  · replace h := br_f b4 h
    cases h
    simp -implicitDefEqProofs only [go_sem, Nat.reduceLT, Nat.reduceAdd, Nat.reduceSub, Nat.reduceMul, Nat.reduceEqDiff, Nat.reduceBEq, Nat.reduceLeDiff, Int.reduceToNat, Int.reduceLT, Int.reduceLE, Int.reduceEq, reduceCtorEq, ↓reduceIte, i12, c12, w2, b4]
  · replace h := br_t b4 h
    cases h
    simp -implicitDefEqProofs only [go_sem, Nat.reduceLT, Nat.reduceAdd, Nat.reduceSub, Nat.reduceMul, Nat.reduceEqDiff, Nat.reduceBEq, Nat.reduceLeDiff, Int.reduceToNat, Int.reduceLT, Int.reduceLE, Int.reduceEq, reduceCtorEq, ↓reduceIte, i12, c12, w2, b4]
-- f64 slices.IndexFunc[[]int,int]
def X64_1 (a1_f : Nat) (a1_c : List AV) (a0 : (List Int)) (p1 : Int) (a1 : (Int → Option Bool)) (o : (Unit ⊕ Int)) : Ex × Fr × St :=
  match o with
  | .inl o => (.exit 0, frOf 19 (anyF), [])
  | .inr o => (.ret, frOf 19 (upd anyF 4 (.int .i64 o)), [])
def E64_1 (a1_f : Nat) (a1_c : List AV) (a0 : (List Int)) (p1 : Int) (a1 : (Int → Option Bool)) (s : Int) : Fr × St := (frOf 19 (upd (upd (upd (upd anyF 0 (.ts .imm 1 (a0.map encInt))) 1 (.fn a1_f a1_c)) 7 (.int .i64 p1)) 8 (.int .i64 s)), [])
theorem b64_1 (a0 : (List Int)) (p1 : Int) (a1 : (Int → Option Bool)) (a1_f : Nat) (a1_c : List AV) (a1_h : ((∀ S, mapO (lendPtr S) a1_c = some a1_c) ∧ (∀ n0 src R tm t c, tdL n0 src R tm t c a1_c = some a1_c)) ∧ ∀ y0 r, a1 y0 = some r → (∀ S, evCall T (evFL T) a1_f ([.int .i64 y0] ++ a1_c) S = some (.bool r, S)) ∧ (∀ S, evCallFz T (evFL T) a1_f ([.int .i64 y0] ++ a1_c) S = some (.bool r, S))) (s : Int) (o : Ctl Int (Unit ⊕ Int)) (h : m64_1b a0 p1 a1 s = some o) : evCL T 0 k64_1b (E64_1 a1_f a1_c a0 p1 a1 s).1 (E64_1 a1_f a1_c a0 p1 a1 s).2 = some (ctlX (E64_1 a1_f a1_c a0 p1 a1) (X64_1 a1_f a1_c a0 p1 a1) o) := by
  unfold m64_1b at h
  revert h
  generalize s = s12
  intro h
  try simp -implicitDefEqProofs only [go_sem, Nat.reduceLT, Nat.reduceAdd, Nat.reduceSub, Nat.reduceMul, Nat.reduceEqDiff, Nat.reduceBEq, Nat.reduceLeDiff, Int.reduceToNat, Int.reduceLT, Int.reduceLE, Int.reduceEq, reduceCtorEq, ↓reduceIte, E64_1, X64_1, k64_1b, a1_h.1]
  cases b13 : (ltI s12 p1 : Bool)
  · replace h := br_f b13 h
    cases h
    simp -implicitDefEqProofs only [go_sem, Nat.reduceLT, Nat.reduceAdd, Nat.reduceSub, Nat.reduceMul, Nat.reduceEqDiff, Nat.reduceBEq, Nat.reduceLeDiff, Int.reduceToNat, Int.reduceLT, Int.reduceLE, Int.reduceEq, reduceCtorEq, ↓reduceIte, E64_1, X64_1, k64_1b, a1_h.1, b13]
  · replace h := br_t b13 h
    obtain ⟨x14, q15, h⟩ := bnd_some h
    obtain ⟨g16, g17, g18⟩ := idx_row encInt q15
    try simp -implicitDefEqProofs only [go_sem, Nat.reduceLT, Nat.reduceAdd, Nat.reduceSub, Nat.reduceMul, Nat.reduceEqDiff, Nat.reduceBEq, Nat.reduceLeDiff, Int.reduceToNat, Int.reduceLT, Int.reduceLE, Int.reduceEq, reduceCtorEq, ↓reduceIte] at g17
    try simp -implicitDefEqProofs only [go_sem, Nat.reduceLT, Nat.reduceAdd, Nat.reduceSub, Nat.reduceMul, Nat.reduceEqDiff, Nat.reduceBEq, Nat.reduceLeDiff, Int.reduceToNat, Int.reduceLT, Int.reduceLE, Int.reduceEq, reduceCtorEq, ↓reduceIte] at g18
    obtain ⟨r19, q20, h⟩ := bnd_some h
    have w21 := a1_h.2 x14 r19 q20
    try simp -implicitDefEqProofs only [go_sem, Nat.reduceLT, Nat.reduceAdd, Nat.reduceSub, Nat.reduceMul, Nat.reduceEqDiff, Nat.reduceBEq, Nat.reduceLeDiff, Int.reduceToNat, Int.reduceLT, Int.reduceLE, Int.reduceEq, reduceCtorEq, ↓reduceIte] at w21
    try simp -implicitDefEqProofs only [go_sem, Nat.reduceLT, Nat.reduceAdd, Nat.reduceSub, Nat.reduceMul, Nat.reduceEqDiff, Nat.reduceBEq, Nat.reduceLeDiff, Int.reduceToNat, Int.reduceLT, Int.reduceLE, Int.reduceEq, reduceCtorEq, ↓reduceIte, E64_1, X64_1, k64_1b, a1_h.1, b13, g16, g17, g18, w21.1, w21.2]
    cases b22 : (r19 : Bool)
    · replace h := br_f b22 h
      cases h
      simp -implicitDefEqProofs only [go_sem, Nat.reduceLT, Nat.reduceAdd, Nat.reduceSub, Nat.reduceMul, Nat.reduceEqDiff, Nat.reduceBEq, Nat.reduceLeDiff, Int.reduceToNat, Int.reduceLT, Int.reduceLE, Int.reduceEq, reduceCtorEq, ↓reduceIte, E64_1, X64_1, k64_1b, a1_h.1, b13, g16, g17, g18, w21.1, w21.2, b22]
    · replace h := br_t b22 h
      cases h
      simp -implicitDefEqProofs only [go_sem, Nat.reduceLT, Nat.reduceAdd, Nat.reduceSub, Nat.reduceMul, Nat.reduceEqDiff, Nat.reduceBEq, Nat.reduceLeDiff, Int.reduceToNat, Int.reduceLT, Int.reduceLE, Int.reduceEq, reduceCtorEq, ↓reduceIte, E64_1, X64_1, k64_1b, a1_h.1, b13, g16, g17, g18, w21.1, w21.2, b22]
theorem e64_1 (a0 : (List Int)) (p1 : Int) (a1 : (Int → Option Bool)) (a1_f : Nat) (a1_c : List AV) (a1_h : ((∀ S, mapO (lendPtr S) a1_c = some a1_c) ∧ (∀ n0 src R tm t c, tdL n0 src R tm t c a1_c = some a1_c)) ∧ ∀ y0 r, a1 y0 = some r → (∀ S, evCall T (evFL T) a1_f ([.int .i64 y0] ++ a1_c) S = some (.bool r, S)) ∧ (∀ S, evCallFz T (evFL T) a1_f ([.int .i64 y0] ++ a1_c) S = some (.bool r, S))) (s : Int) (o : (Unit ⊕ Int)) (h : loopP (m64_1b a0 p1 a1) s = some o) : evCL T 0 (.loop k64_1b) (E64_1 a1_f a1_c a0 p1 a1 s).1 (E64_1 a1_f a1_c a0 p1 a1 s).2 = some (X64_1 a1_f a1_c a0 p1 a1 o) :=
  loop_walk (E := E64_1 a1_f a1_c a0 p1 a1) (X := X64_1 a1_f a1_c a0 p1 a1) (by intro b; rcases b with b | b <;> (simp only [X64_1]; nofun)) (b64_1 a0 p1 a1 a1_f a1_c a1_h) s o h
theorem call64 (args : List AV) (S : St) : evCall T (evFL T) 64 args S = lendC (evFL T 64) S (lendAll S [[1], [0]] args) := evCall0 fn64 rfl rfl args S
theorem callz64 (args : List AV) (S : St) : evCallFz T (evFL T) 64 args S = lendZ (evFL T 64) S [[0]] (lendAll S [[1], [0]] args) := evCallFz0 fn64 rfl rfl args S
attribute [go_sem] call64 callz64
theorem e64 (a0 : (List Int)) (a1 : (Int → Option Bool)) (a1_f : Nat) (a1_c : List AV) (a1_h : ((∀ S, mapO (lendPtr S) a1_c = some a1_c) ∧ (∀ n0 src R tm t c, tdL n0 src R tm t c a1_c = some a1_c)) ∧ ∀ y0 r, a1 y0 = some r → (∀ S, evCall T (evFL T) a1_f ([.int .i64 y0] ++ a1_c) S = some (.bool r, S)) ∧ (∀ S, evCallFz T (evFL T) a1_f ([.int .i64 y0] ++ a1_c) S = some (.bool r, S))) (r : Int) (h : m64 a0 a1 = some r) : evFL T 64 [.ts .imm 1 (a0.map encInt), .fn a1_f a1_c] [] = some (.int .i64 r, []) := by
  unfold m64 at h
  rw [evFL_at fn64 (Nat.le_of_ble_eq_true rfl) rfl (.inr rfl)]
  try simp -implicitDefEqProofs only [go_sem, Nat.reduceLT, Nat.reduceAdd, Nat.reduceSub, Nat.reduceMul, Nat.reduceEqDiff, Nat.reduceBEq, Nat.reduceLeDiff, Int.reduceToNat, Int.reduceLT, Int.reduceLE, Int.reduceEq, reduceCtorEq, ↓reduceIte, i64, c64, a1_h.1]
  obtain ⟨o, q23, h⟩ := bnd_some h
  rcases o with ⟨⟩ | v25
  · replace h := selS_l h
    have w24 := e64_1 a0 (↑a0.length : Int) a1 a1_f a1_c a1_h 0 (.inl ()) q23
    simp only [E64_1, X64_1] at w24
    try simp -implicitDefEqProofs only [go_sem, Nat.reduceLT, Nat.reduceAdd, Nat.reduceSub, Nat.reduceMul, Nat.reduceEqDiff, Nat.reduceBEq, Nat.reduceLeDiff, Int.reduceToNat, Int.reduceLT, Int.reduceLE, Int.reduceEq, reduceCtorEq, ↓reduceIte] at w24
    cases h
    simp -implicitDefEqProofs only [go_sem, Nat.reduceLT, Nat.reduceAdd, Nat.reduceSub, Nat.reduceMul, Nat.reduceEqDiff, Nat.reduceBEq, Nat.reduceLeDiff, Int.reduceToNat, Int.reduceLT, Int.reduceLE, Int.reduceEq, reduceCtorEq, ↓reduceIte, i64, c64, a1_h.1, w24]
  · replace h := selS_r h
    have w24 := e64_1 a0 (↑a0.length : Int) a1 a1_f a1_c a1_h 0 (.inr v25) q23
    simp only [E64_1, X64_1] at w24
    try simp -implicitDefEqProofs only [go_sem, Nat.reduceLT, Nat.reduceAdd, Nat.reduceSub, Nat.reduceMul, Nat.reduceEqDiff, Nat.reduceBEq, Nat.reduceLeDiff, Int.reduceToNat, Int.reduceLT, Int.reduceLE, Int.reduceEq, reduceCtorEq, ↓reduceIte] at w24
    cases h
    simp -implicitDefEqProofs only [go_sem, Nat.reduceLT, Nat.reduceAdd, Nat.reduceSub, Nat.reduceMul, Nat.reduceEqDiff, Nat.reduceBEq, Nat.reduceLeDiff, Int.reduceToNat, Int.reduceLT, Int.reduceLE, Int.reduceEq, reduceCtorEq, ↓reduceIte, i64, c64, a1_h.1, w24]
-- f51 slices.ContainsFunc[[]int,int]
theorem call51 (args : List AV) (S : St) : evCall T (evFL T) 51 args S = lendC (evFL T 51) S (lendAll S [[1], [0]] args) := evCall0 fn51 rfl rfl args S
theorem callz51 (args : List AV) (S : St) : evCallFz T (evFL T) 51 args S = lendZ (evFL T 51) S [[0]] (lendAll S [[1], [0]] args) := evCallFz0 fn51 rfl rfl args S
attribute [go_sem] call51 callz51
theorem e51 (a0 : (List Int)) (a1 : (Int → Option Bool)) (a1_f : Nat) (a1_c : List AV) (a1_h : ((∀ S, mapO (lendPtr S) a1_c = some a1_c) ∧ (∀ n0 src R tm t c, tdL n0 src R tm t c a1_c = some a1_c)) ∧ ∀ y0 r, a1 y0 = some r → (∀ S, evCall T (evFL T) a1_f ([.int .i64 y0] ++ a1_c) S = some (.bool r, S)) ∧ (∀ S, evCallFz T (evFL T) a1_f ([.int .i64 y0] ++ a1_c) S = some (.bool r, S))) (r : Bool) (h : m51 a0 a1 = some r) : evFL T 51 [.ts .imm 1 (a0.map encInt), .fn a1_f a1_c] [] = some (.bool r, []) := by
  unfold m51 at h
  rw [evFL_at fn51 (Nat.le_of_ble_eq_true rfl) rfl (.inr rfl)]
  obtain ⟨r3, q1, h⟩ := bnd_some h
  have w2 := e64 a0 a1 a1_f a1_c a1_h r3 q1
  try simp -implicitDefEqProofs only [go_sem, Nat.reduceLT, Nat.reduceAdd, Nat.reduceSub, Nat.reduceMul, Nat.reduceEqDiff, Nat.reduceBEq, Nat.reduceLeDiff, Int.reduceToNat, Int.reduceLT, Int.reduceLE, Int.reduceEq, reduceCtorEq, ↓reduceIte] at w2
  cases h
  simp -implicitDefEqProofs only [go_sem, Nat.reduceLT, Nat.reduceAdd, Nat.reduceSub, Nat.reduceMul, Nat.reduceEqDiff, Nat.reduceBEq, Nat.reduceLeDiff, Int.reduceToNat, Int.reduceLT, Int.reduceLE, Int.reduceEq, reduceCtorEq, ↓reduceIte, i51, c51, a1_h.1, w2]
-- f52 impl.PlayPair$1
theorem call52 (args : List AV) (S : St) : evCall T (evFL T) 52 args S = lendC (evFL T 52) S (lendAll S [[0]] args) := evCall0 fn52 rfl rfl args S
theorem callz52 (args : List AV) (S : St) : evCallFz T (evFL T) 52 args S = lendZ (evFL T 52) S [[0]] (lendAll S [[0]] args) := evCallFz0 fn52 rfl rfl args S
attribute [go_sem] call52 callz52
theorem e52 (a0 : Int) (r : Bool) (h : m52 a0 = some r) : evFL T 52 [.int .i64 a0] [] = some (.bool r, []) := by
  unfold m52 at h
  rw [evFL_at fn52 (Nat.le_of_ble_eq_true rfl) rfl (.inr rfl)]
  obtain ⟨r3, q1, h⟩ := bnd_some h
  have w2 := e40 a0 0 2 r3 q1
  try simp -implicitDefEqProofs only [go_sem, Nat.reduceLT, Nat.reduceAdd, Nat.reduceSub, Nat.reduceMul, Nat.reduceEqDiff, Nat.reduceBEq, Nat.reduceLeDiff, Int.reduceToNat, Int.reduceLT, Int.reduceLE, Int.reduceEq, reduceCtorEq, ↓reduceIte] at w2
  cases h
  simp -implicitDefEqProofs only [go_sem, Nat.reduceLT, Nat.reduceAdd, Nat.reduceSub, Nat.reduceMul, Nat.reduceEqDiff, Nat.reduceBEq, Nat.reduceLeDiff, Int.reduceToNat, Int.reduceLT, Int.reduceLE, Int.reduceEq, reduceCtorEq, ↓reduceIte, i52, c52, w2]
-- f61 (impl.Session).to
theorem call61 (args : List AV) (S : St) : evCall T (evFL T) 61 args S = lendC (evFL T 61) S (lendAll S [[0, 0, 0, 0, 0], [0]] args) := evCall0 fn61 rfl rfl args S
theorem callz61 (args : List AV) (S : St) : evCallFz T (evFL T) 61 args S = lendZ (evFL T 61) S [[0, 0, 0, 0, 0]] (lendAll S [[0, 0, 0, 0, 0], [0]] args) := evCallFz0 fn61 rfl rfl args S
attribute [go_sem] call61 callz61
theorem e61 (a0 : Session) (a1 : Int) (r : Session) (h : m61 a0 a1 = some r) : evFL T 61 [.agg [.int .i64 a0.state, .int .i64 a0.hold, .int .i64 a0.left, .int .i64 a0.quiet, .int .i64 a0.ups], .int .i64 a1] [] = some (.agg [.int .i64 r.state, .int .i64 r.hold, .int .i64 r.left, .int .i64 r.quiet, .int .i64 r.ups], []) := by
  unfold m61 at h
  rw [evFL_at fn61 (Nat.le_of_ble_eq_true rfl) rfl (.inr rfl)]
  cases h
  simp -implicitDefEqProofs only [go_sem, Nat.reduceLT, Nat.reduceAdd, Nat.reduceSub, Nat.reduceMul, Nat.reduceEqDiff, Nat.reduceBEq, Nat.reduceLeDiff, Int.reduceToNat, Int.reduceLT, Int.reduceLE, Int.reduceEq, reduceCtorEq, ↓reduceIte, i61, c61]
-- f62 (impl.Session).tick
theorem call62 (args : List AV) (S : St) : evCall T (evFL T) 62 args S = lendC (evFL T 62) S (lendAll S [[0, 0, 0, 0, 0]] args) := evCall0 fn62 rfl rfl args S
theorem callz62 (args : List AV) (S : St) : evCallFz T (evFL T) 62 args S = lendZ (evFL T 62) S [[0, 0, 0, 0, 0], [1]] (lendAll S [[0, 0, 0, 0, 0]] args) := evCallFz0 fn62 rfl rfl args S
attribute [go_sem] call62 callz62
theorem e62 (a0 : Session) (r : (Session × (List Int))) (h : m62 a0 = some r) : evFL T 62 [.agg [.int .i64 a0.state, .int .i64 a0.hold, .int .i64 a0.left, .int .i64 a0.quiet, .int .i64 a0.ups]] [] = some (.tup [.agg [.int .i64 r.1.state, .int .i64 r.1.hold, .int .i64 r.1.left, .int .i64 r.1.quiet, .int .i64 r.1.ups], .sl 0 0 r.2.length], [some ⟨.arr, 1, r.2.map encInt⟩]) := by
  unfold m62 at h
  rw [evFL_at fn62 (Nat.le_of_ble_eq_true rfl) rfl (.inr rfl)]
  try simp -implicitDefEqProofs only [go_sem, Nat.reduceLT, Nat.reduceAdd, Nat.reduceSub, Nat.reduceMul, Nat.reduceEqDiff, Nat.reduceBEq, Nat.reduceLeDiff, Int.reduceToNat, Int.reduceLT, Int.reduceLE, Int.reduceEq, reduceCtorEq, ↓reduceIte, i62, c62]
  cases b1 : (eqI (wsub .i64 a0.left 1) 0 : Bool)
  · replace h := br_f b1 h
    try simp -implicitDefEqProofs only [go_sem, Nat.reduceLT, Nat.reduceAdd, Nat.reduceSub, Nat.reduceMul, Nat.reduceEqDiff, Nat.reduceBEq, Nat.reduceLeDiff, Int.reduceToNat, Int.reduceLT, Int.reduceLE, Int.reduceEq, reduceCtorEq, ↓reduceIte, i62, c62, b1]
    cases b5 : (eqI a0.state 2 : Bool)
    · replace h := br_f b5 h
      try simp -implicitDefEqProofs only [go_sem, Nat.reduceLT, Nat.reduceAdd, Nat.reduceSub, Nat.reduceMul, Nat.reduceEqDiff, Nat.reduceBEq, Nat.reduceLeDiff, Int.reduceToNat, Int.reduceLT, Int.reduceLE, Int.reduceEq, reduceCtorEq, ↓reduceIte, i62, c62, b1, b5]
      cases b6 : (eqI (wsub .i64 a0.quiet 1) 0 : Bool)
      · replace h := br_f b6 h
        cases h
        simp -implicitDefEqProofs only [go_sem, Nat.reduceLT, Nat.reduceAdd, Nat.reduceSub, Nat.reduceMul, Nat.reduceEqDiff, Nat.reduceBEq, Nat.reduceLeDiff, Int.reduceToNat, Int.reduceLT, Int.reduceLE, Int.reduceEq, reduceCtorEq, ↓reduceIte, i62, c62, b1, b5, b6]
      · replace h := br_t b6 h
        cases h
        simp -implicitDefEqProofs only [go_sem, Nat.reduceLT, Nat.reduceAdd, Nat.reduceSub, Nat.reduceMul, Nat.reduceEqDiff, Nat.reduceBEq, Nat.reduceLeDiff, Int.reduceToNat, Int.reduceLT, Int.reduceLE, Int.reduceEq, reduceCtorEq, ↓reduceIte, i62, c62, b1, b5, b6]
    · replace h := br_t b5 h
      cases h
      simp -implicitDefEqProofs only [go_sem, Nat.reduceLT, Nat.reduceAdd, Nat.reduceSub, Nat.reduceMul, Nat.reduceEqDiff, Nat.reduceBEq, Nat.reduceLeDiff, Int.reduceToNat, Int.reduceLT, Int.reduceLE, Int.reduceEq, reduceCtorEq, ↓reduceIte, i62, c62, b1, b5]
  · replace h := br_t b1 h
    obtain ⟨r4, q2, h⟩ := bnd_some h
    have w3 := e61 (⟨a0.state, a0.hold, wsub .i64 a0.left 1, a0.quiet, a0.ups⟩ : Session) 0 r4 q2
    try simp -implicitDefEqProofs only [go_sem, Nat.reduceLT, Nat.reduceAdd, Nat.reduceSub, Nat.reduceMul, Nat.reduceEqDiff, Nat.reduceBEq, Nat.reduceLeDiff, Int.reduceToNat, Int.reduceLT, Int.reduceLE, Int.reduceEq, reduceCtorEq, ↓reduceIte] at w3
    cases h
    simp -implicitDefEqProofs only [go_sem, Nat.reduceLT, Nat.reduceAdd, Nat.reduceSub, Nat.reduceMul, Nat.reduceEqDiff, Nat.reduceBEq, Nat.reduceLeDiff, Int.reduceToNat, Int.reduceLT, Int.reduceLE, Int.reduceEq, reduceCtorEq, ↓reduceIte, i62, c62, b1, w3]
-- f44 (impl.Session).step
def X44_1 (p1 : Bool) (a0 : Session) (a1 : Evt) (p2 : Session) (o : Bool) : Ex × Fr × St :=
  (.normal, frOf 142 (upd (upd (upd (upd (upd anyF 2 (.ptr 0 0 0)) 3 (.ptr 1 0 0)) 4 (.ptr 2 0 0)) 6 (.bool p1)) 12 (.bool o)), [some ⟨.box, 5, [[.int .i64 a0.state, .int .i64 a0.hold, .int .i64 a0.left, .int .i64 a0.quiet, .int .i64 a0.ups]]⟩, some ⟨.box, 2, [[.int .i64 a1.kind, .int .i64 a1.n]]⟩, some ⟨.box, 5, [[.int .i64 p2.state, .int .i64 p2.hold, .int .i64 p2.left, .int .i64 p2.quiet, .int .i64 p2.ups]]⟩])
theorem e44_1 (p1 : Bool) (a0 : Session) (a1 : Evt) (p2 : Session) (o : Bool) (h : m44_1 a0 a1 = some o) : evCL T 0 k44_1 (frOf 142 (upd (upd (upd (upd anyF 2 (.ptr 0 0 0)) 3 (.ptr 1 0 0)) 4 (.ptr 2 0 0)) 6 (.bool p1))) [some ⟨.box, 5, [[.int .i64 a0.state, .int .i64 a0.hold, .int .i64 a0.left, .int .i64 a0.quiet, .int .i64 a0.ups]]⟩, some ⟨.box, 2, [[.int .i64 a1.kind, .int .i64 a1.n]]⟩, some ⟨.box, 5, [[.int .i64 p2.state, .int .i64 p2.hold, .int .i64 p2.left, .int .i64 p2.quiet, .int .i64 p2.ups]]⟩] = some (X44_1 p1 a0 a1 p2 o) := by
  unfold m44_1 at h
  try simp -implicitDefEqProofs only [go_sem, Nat.reduceLT, Nat.reduceAdd, Nat.reduceSub, Nat.reduceMul, Nat.reduceEqDiff, Nat.reduceBEq, Nat.reduceLeDiff, Int.reduceToNat, Int.reduceLT, Int.reduceLE, Int.reduceEq, reduceCtorEq, ↓reduceIte, X44_1, k44_1]
  cases b3 : (eqI a1.kind 1 : Bool)
  · replace h := br_f b3 h
    cases h
    simp -implicitDefEqProofs only [go_sem, Nat.reduceLT, Nat.reduceAdd, Nat.reduceSub, Nat.reduceMul, Nat.reduceEqDiff, Nat.reduceBEq, Nat.reduceLeDiff, Int.reduceToNat, Int.reduceLT, Int.reduceLE, Int.reduceEq, reduceCtorEq, ↓reduceIte, X44_1, k44_1, b3]
  · replace h := br_t b3 h
    cases h
    simp -implicitDefEqProofs only [go_sem, Nat.reduceLT, Nat.reduceAdd, Nat.reduceSub, Nat.reduceMul, Nat.reduceEqDiff, Nat.reduceBEq, Nat.reduceLeDiff, Int.reduceToNat, Int.reduceLT, Int.reduceLE, Int.reduceEq, reduceCtorEq, ↓reduceIte, X44_1, k44_1, b3]
def X44_2 (p11 : Bool) (a0 : Session) (a1 : Evt) (p12 : Session) (o : Bool) : Ex × Fr × St :=
  (.normal, frOf 142 (upd (upd (upd (upd (upd anyF 2 (.ptr 0 0 0)) 3 (.ptr 1 0 0)) 4 (.ptr 2 0 0)) 6 (.bool p11)) 23 (.bool o)), [some ⟨.box, 5, [[.int .i64 a0.state, .int .i64 a0.hold, .int .i64 a0.left, .int .i64 a0.quiet, .int .i64 a0.ups]]⟩, some ⟨.box, 2, [[.int .i64 a1.kind, .int .i64 a1.n]]⟩, some ⟨.box, 5, [[.int .i64 p12.state, .int .i64 p12.hold, .int .i64 p12.left, .int .i64 p12.quiet, .int .i64 p12.ups]]⟩])
theorem e44_2 (p11 : Bool) (a0 : Session) (a1 : Evt) (p12 : Session) (o : Bool) (h : m44_2 p11 a1 = some o) : evCL T 0 k44_2 (frOf 142 (upd (upd (upd (upd anyF 2 (.ptr 0 0 0)) 3 (.ptr 1 0 0)) 4 (.ptr 2 0 0)) 6 (.bool p11))) [some ⟨.box, 5, [[.int .i64 a0.state, .int .i64 a0.hold, .int .i64 a0.left, .int .i64 a0.quiet, .int .i64 a0.ups]]⟩, some ⟨.box, 2, [[.int .i64 a1.kind, .int .i64 a1.n]]⟩, some ⟨.box, 5, [[.int .i64 p12.state, .int .i64 p12.hold, .int .i64 p12.left, .int .i64 p12.quiet, .int .i64 p12.ups]]⟩] = some (X44_2 p11 a0 a1 p12 o) := by
  unfold m44_2 at h
  try simp -implicitDefEqProofs only [go_sem, Nat.reduceLT, Nat.reduceAdd, Nat.reduceSub, Nat.reduceMul, Nat.reduceEqDiff, Nat.reduceBEq, Nat.reduceLeDiff, Int.reduceToNat, Int.reduceLT, Int.reduceLE, Int.reduceEq, reduceCtorEq, ↓reduceIte, X44_2, k44_2]
  cases b13 : (eqI a1.kind 2 : Bool)
  · replace h := br_f b13 h
    cases h
    simp -implicitDefEqProofs only [go_sem, Nat.reduceLT, Nat.reduceAdd, Nat.reduceSub, Nat.reduceMul, Nat.reduceEqDiff, Nat.reduceBEq, Nat.reduceLeDiff, Int.reduceToNat, Int.reduceLT, Int.reduceLE, Int.reduceEq, reduceCtorEq, ↓reduceIte, X44_2, k44_2, b13]
  · replace h := br_t b13 h
    cases h
    simp -implicitDefEqProofs only [go_sem, Nat.reduceLT, Nat.reduceAdd, Nat.reduceSub, Nat.reduceMul, Nat.reduceEqDiff, Nat.reduceBEq, Nat.reduceLeDiff, Int.reduceToNat, Int.reduceLT, Int.reduceLE, Int.reduceEq, reduceCtorEq, ↓reduceIte, X44_2, k44_2, b13]
def X44_3 (p21 : Bool) (a0 : Session) (a1 : Evt) (p22 : Session) (o : Bool) : Ex × Fr × St :=
  (.normal, frOf 142 (upd (upd (upd (upd (upd anyF 2 (.ptr 0 0 0)) 3 (.ptr 1 0 0)) 4 (.ptr 2 0 0)) 6 (.bool p21)) 33 (.bool o)), [some ⟨.box, 5, [[.int .i64 a0.state, .int .i64 a0.hold, .int .i64 a0.left, .int .i64 a0.quiet, .int .i64 a0.ups]]⟩, some ⟨.box, 2, [[.int .i64 a1.kind, .int .i64 a1.n]]⟩, some ⟨.box, 5, [[.int .i64 p22.state, .int .i64 p22.hold, .int .i64 p22.left, .int .i64 p22.quiet, .int .i64 p22.ups]]⟩])
theorem e44_3 (p21 : Bool) (a0 : Session) (a1 : Evt) (p22 : Session) (o : Bool) (h : m44_3 a0 a1 = some o) : evCL T 0 k44_3 (frOf 142 (upd (upd (upd (upd anyF 2 (.ptr 0 0 0)) 3 (.ptr 1 0 0)) 4 (.ptr 2 0 0)) 6 (.bool p21))) [some ⟨.box, 5, [[.int .i64 a0.state, .int .i64 a0.hold, .int .i64 a0.left, .int .i64 a0.quiet, .int .i64 a0.ups]]⟩, some ⟨.box, 2, [[.int .i64 a1.kind, .int .i64 a1.n]]⟩, some ⟨.box, 5, [[.int .i64 p22.state, .int .i64 p22.hold, .int .i64 p22.left, .int .i64 p22.quiet, .int .i64 p22.ups]]⟩] = some (X44_3 p21 a0 a1 p22 o) := by
  unfold m44_3 at h
  try simp -implicitDefEqProofs only [go_sem, Nat.reduceLT, Nat.reduceAdd, Nat.reduceSub, Nat.reduceMul, Nat.reduceEqDiff, Nat.reduceBEq, Nat.reduceLeDiff, Int.reduceToNat, Int.reduceLT, Int.reduceLE, Int.reduceEq, reduceCtorEq, ↓reduceIte, X44_3, k44_3]
  cases b23 : (eqI a1.kind 3 : Bool)
  · replace h := br_f b23 h
    cases h
    simp -implicitDefEqProofs only [go_sem, Nat.reduceLT, Nat.reduceAdd, Nat.reduceSub, Nat.reduceMul, Nat.reduceEqDiff, Nat.reduceBEq, Nat.reduceLeDiff, Int.reduceToNat, Int.reduceLT, Int.reduceLE, Int.reduceEq, reduceCtorEq, ↓reduceIte, X44_3, k44_3, b23]
  · replace h := br_t b23 h
    cases h
    simp -implicitDefEqProofs only [go_sem, Nat.reduceLT, Nat.reduceAdd, Nat.reduceSub, Nat.reduceMul, Nat.reduceEqDiff, Nat.reduceBEq, Nat.reduceLeDiff, Int.reduceToNat, Int.reduceLT, Int.reduceLE, Int.reduceEq, reduceCtorEq, ↓reduceIte, X44_3, k44_3, b23]
def X44_4 (a0 : Session) (a1 : Evt) (p36 : Session) (o : Bool) : Ex × Fr × St :=
  (.normal, frOf 142 (upd (upd (upd (upd anyF 2 (.ptr 0 0 0)) 3 (.ptr 1 0 0)) 4 (.ptr 2 0 0)) 57 (.bool o)), [some ⟨.box, 5, [[.int .i64 a0.state, .int .i64 a0.hold, .int .i64 a0.left, .int .i64 a0.quiet, .int .i64 a0.ups]]⟩, some ⟨.box, 2, [[.int .i64 a1.kind, .int .i64 a1.n]]⟩, some ⟨.box, 5, [[.int .i64 p36.state, .int .i64 p36.hold, .int .i64 p36.left, .int .i64 p36.quiet, .int .i64 p36.ups]]⟩])
theorem e44_4 (a0 : Session) (a1 : Evt) (p36 : Session) (o : Bool) (h : m44_4 a0 a1 = some o) : evCL T 0 k44_4 (frOf 142 (upd (upd (upd anyF 2 (.ptr 0 0 0)) 3 (.ptr 1 0 0)) 4 (.ptr 2 0 0))) [some ⟨.box, 5, [[.int .i64 a0.state, .int .i64 a0.hold, .int .i64 a0.left, .int .i64 a0.quiet, .int .i64 a0.ups]]⟩, some ⟨.box, 2, [[.int .i64 a1.kind, .int .i64 a1.n]]⟩, some ⟨.box, 5, [[.int .i64 p36.state, .int .i64 p36.hold, .int .i64 p36.left, .int .i64 p36.quiet, .int .i64 p36.ups]]⟩] = some (X44_4 a0 a1 p36 o) := by
  unfold m44_4 at h
  try simp -implicitDefEqProofs only [go_sem, Nat.reduceLT, Nat.reduceAdd, Nat.reduceSub, Nat.reduceMul, Nat.reduceEqDiff, Nat.reduceBEq, Nat.reduceLeDiff, Int.reduceToNat, Int.reduceLT, Int.reduceLE, Int.reduceEq, reduceCtorEq, ↓reduceIte, X44_4, k44_4]
  cases b37 : (eqI a1.kind 5 : Bool)
  · replace h := br_f b37 h
    cases h
    simp -implicitDefEqProofs only [go_sem, Nat.reduceLT, Nat.reduceAdd, Nat.reduceSub, Nat.reduceMul, Nat.reduceEqDiff, Nat.reduceBEq, Nat.reduceLeDiff, Int.reduceToNat, Int.reduceLT, Int.reduceLE, Int.reduceEq, reduceCtorEq, ↓reduceIte, X44_4, k44_4, b37]
  · replace h := br_t b37 h
    try simp -implicitDefEqProofs only [go_sem, Nat.reduceLT, Nat.reduceAdd, Nat.reduceSub, Nat.reduceMul, Nat.reduceEqDiff, Nat.reduceBEq, Nat.reduceLeDiff, Int.reduceToNat, Int.reduceLT, Int.reduceLE, Int.reduceEq, reduceCtorEq, ↓reduceIte, X44_4, k44_4, b37]
    cases b38 : (eqI a0.state 2 : Bool)
    · replace h := br_f b38 h
      cases h
      simp -implicitDefEqProofs only [go_sem, Nat.reduceLT, Nat.reduceAdd, Nat.reduceSub, Nat.reduceMul, Nat.reduceEqDiff, Nat.reduceBEq, Nat.reduceLeDiff, Int.reduceToNat, Int.reduceLT, Int.reduceLE, Int.reduceEq, reduceCtorEq, ↓reduceIte, X44_4, k44_4, b37, b38]
    · replace h := br_t b38 h
      cases h
      simp -implicitDefEqProofs only [go_sem, Nat.reduceLT, Nat.reduceAdd, Nat.reduceSub, Nat.reduceMul, Nat.reduceEqDiff, Nat.reduceBEq, Nat.reduceLeDiff, Int.reduceToNat, Int.reduceLT, Int.reduceLE, Int.reduceEq, reduceCtorEq, ↓reduceIte, X44_4, k44_4, b37, b38]
def X44_5 (a0 : Session) (a1 : Evt) (p46 : Session) (o : Bool) : Ex × Fr × St :=
  (.normal, frOf 142 (upd (upd (upd (upd anyF 2 (.ptr 0 0 0)) 3 (.ptr 1 0 0)) 4 (.ptr 2 0 0)) 88 (.bool o)), [some ⟨.box, 5, [[.int .i64 a0.state, .int .i64 a0.hold, .int .i64 a0.left, .int .i64 a0.quiet, .int .i64 a0.ups]]⟩, some ⟨.box, 2, [[.int .i64 a1.kind, .int .i64 a1.n]]⟩, some ⟨.box, 5, [[.int .i64 p46.state, .int .i64 p46.hold, .int .i64 p46.left, .int .i64 p46.quiet, .int .i64 p46.ups]]⟩])
theorem e44_5 (a0 : Session) (a1 : Evt) (p46 : Session) (o : Bool) (h : m44_5 a0 a1 = some o) : evCL T 0 k44_5 (frOf 142 (upd (upd (upd anyF 2 (.ptr 0 0 0)) 3 (.ptr 1 0 0)) 4 (.ptr 2 0 0))) [some ⟨.box, 5, [[.int .i64 a0.state, .int .i64 a0.hold, .int .i64 a0.left, .int .i64 a0.quiet, .int .i64 a0.ups]]⟩, some ⟨.box, 2, [[.int .i64 a1.kind, .int .i64 a1.n]]⟩, some ⟨.box, 5, [[.int .i64 p46.state, .int .i64 p46.hold, .int .i64 p46.left, .int .i64 p46.quiet, .int .i64 p46.ups]]⟩] = some (X44_5 a0 a1 p46 o) := by
  unfold m44_5 at h
  try simp -implicitDefEqProofs only [go_sem, Nat.reduceLT, Nat.reduceAdd, Nat.reduceSub, Nat.reduceMul, Nat.reduceEqDiff, Nat.reduceBEq, Nat.reduceLeDiff, Int.reduceToNat, Int.reduceLT, Int.reduceLE, Int.reduceEq, reduceCtorEq, ↓reduceIte, X44_5, k44_5]
  cases b47 : (eqI a1.kind 7 : Bool)
  · replace h := br_f b47 h
    cases h
    simp -implicitDefEqProofs only [go_sem, Nat.reduceLT, Nat.reduceAdd, Nat.reduceSub, Nat.reduceMul, Nat.reduceEqDiff, Nat.reduceBEq, Nat.reduceLeDiff, Int.reduceToNat, Int.reduceLT, Int.reduceLE, Int.reduceEq, reduceCtorEq, ↓reduceIte, X44_5, k44_5, b47]
  · replace h := br_t b47 h
    cases h
    simp -implicitDefEqProofs only [go_sem, Nat.reduceLT, Nat.reduceAdd, Nat.reduceSub, Nat.reduceMul, Nat.reduceEqDiff, Nat.reduceBEq, Nat.reduceLeDiff, Int.reduceToNat, Int.reduceLT, Int.reduceLE, Int.reduceEq, reduceCtorEq, ↓reduceIte, X44_5, k44_5, b47]
def X44_6 (a0 : Session) (a1 : Evt) (p52 : Session) (o : Bool) : Ex × Fr × St :=
  (.normal, frOf 142 (upd (upd (upd (upd anyF 2 (.ptr 0 0 0)) 3 (.ptr 1 0 0)) 4 (.ptr 2 0 0)) 107 (.bool o)), [some ⟨.box, 5, [[.int .i64 a0.state, .int .i64 a0.hold, .int .i64 a0.left, .int .i64 a0.quiet, .int .i64 a0.ups]]⟩, some ⟨.box, 2, [[.int .i64 a1.kind, .int .i64 a1.n]]⟩, some ⟨.box, 5, [[.int .i64 p52.state, .int .i64 p52.hold, .int .i64 p52.left, .int .i64 p52.quiet, .int .i64 p52.ups]]⟩])
theorem e44_6 (a0 : Session) (a1 : Evt) (p52 : Session) (o : Bool) (h : m44_6 a0 a1 = some o) : evCL T 0 k44_6 (frOf 142 (upd (upd (upd anyF 2 (.ptr 0 0 0)) 3 (.ptr 1 0 0)) 4 (.ptr 2 0 0))) [some ⟨.box, 5, [[.int .i64 a0.state, .int .i64 a0.hold, .int .i64 a0.left, .int .i64 a0.quiet, .int .i64 a0.ups]]⟩, some ⟨.box, 2, [[.int .i64 a1.kind, .int .i64 a1.n]]⟩, some ⟨.box, 5, [[.int .i64 p52.state, .int .i64 p52.hold, .int .i64 p52.left, .int .i64 p52.quiet, .int .i64 p52.ups]]⟩] = some (X44_6 a0 a1 p52 o) := by
  unfold m44_6 at h
  try simp -implicitDefEqProofs only [go_sem, Nat.reduceLT, Nat.reduceAdd, Nat.reduceSub, Nat.reduceMul, Nat.reduceEqDiff, Nat.reduceBEq, Nat.reduceLeDiff, Int.reduceToNat, Int.reduceLT, Int.reduceLE, Int.reduceEq, reduceCtorEq, ↓reduceIte, X44_6, k44_6]
  cases b53 : (eqI a1.kind 7 : Bool)
  · replace h := br_f b53 h
    try simp -implicitDefEqProofs only [go_sem, Nat.reduceLT, Nat.reduceAdd, Nat.reduceSub, Nat.reduceMul, Nat.reduceEqDiff, Nat.reduceBEq, Nat.reduceLeDiff, Int.reduceToNat, Int.reduceLT, Int.reduceLE, Int.reduceEq, reduceCtorEq, ↓reduceIte, X44_6, k44_6, b53]
    cases b54 : (eqI a1.kind 8 : Bool)
    · replace h := br_f b54 h
      cases h
      simp -implicitDefEqProofs only [go_sem, Nat.reduceLT, Nat.reduceAdd, Nat.reduceSub, Nat.reduceMul, Nat.reduceEqDiff, Nat.reduceBEq, Nat.reduceLeDiff, Int.reduceToNat, Int.reduceLT, Int.reduceLE, Int.reduceEq, reduceCtorEq, ↓reduceIte, X44_6, k44_6, b53, b54]
    · replace h := br_t b54 h
      cases h
      simp -implicitDefEqProofs only [go_sem, Nat.reduceLT, Nat.reduceAdd, Nat.reduceSub, Nat.reduceMul, Nat.reduceEqDiff, Nat.reduceBEq, Nat.reduceLeDiff, Int.reduceToNat, Int.reduceLT, Int.reduceLE, Int.reduceEq, reduceCtorEq, ↓reduceIte, X44_6, k44_6, b53, b54]
  · replace h := br_t b53 h
    cases h
    simp -implicitDefEqProofs only [go_sem, Nat.reduceLT, Nat.reduceAdd, Nat.reduceSub, Nat.reduceMul, Nat.reduceEqDiff, Nat.reduceBEq, Nat.reduceLeDiff, Int.reduceToNat, Int.reduceLT, Int.reduceLE, Int.reduceEq, reduceCtorEq, ↓reduceIte, X44_6, k44_6, b53]
theorem call44 (args : List AV) (S : St) : evCall T (evFL T) 44 args S = lendC (evFL T 44) S (lendAll S [[0, 0, 0, 0, 0], [0, 0]] args) := evCall0 fn44 rfl rfl args S
theorem callz44 (args : List AV) (S : St) : evCallFz T (evFL T) 44 args S = lendZ (evFL T 44) S [[0, 0, 0, 0, 0], [1]] (lendAll S [[0, 0, 0, 0, 0], [0, 0]] args) := evCallFz0 fn44 rfl rfl args S
attribute [go_sem] call44 callz44
theorem e44 (a0 : Session) (a1 : Evt) (r : (Session × (List Int))) (h : m44 a0 a1 = some r) : evFL T 44 [.agg [.int .i64 a0.state, .int .i64 a0.hold, .int .i64 a0.left, .int .i64 a0.quiet, .int .i64 a0.ups], .agg [.int .i64 a1.kind, .int .i64 a1.n]] [] = some (.tup [.agg [.int .i64 r.1.state, .int .i64 r.1.hold, .int .i64 r.1.left, .int .i64 r.1.quiet, .int .i64 r.1.ups], .sl 0 0 r.2.length], [some ⟨.arr, 1, r.2.map encInt⟩]) := by
  unfold m44 at h
  rw [evFL_at fn44 (Nat.le_of_ble_eq_true rfl) rfl (.inr rfl)]
  obtain ⟨v6, q4, h⟩ := bnd_some h
  have w5 := e44_1 (leI 2 a0.state) a0 a1 (⟨0, 0, 0, 0, 0⟩ : Session) v6 q4
  simp only [X44_1] at w5
  try simp -implicitDefEqProofs only [go_sem, Nat.reduceLT, Nat.reduceAdd, Nat.reduceSub, Nat.reduceMul, Nat.reduceEqDiff, Nat.reduceBEq, Nat.reduceLeDiff, Int.reduceToNat, Int.reduceLT, Int.reduceLE, Int.reduceEq, reduceCtorEq, ↓reduceIte] at w5
  try simp -implicitDefEqProofs only [go_sem, Nat.reduceLT, Nat.reduceAdd, Nat.reduceSub, Nat.reduceMul, Nat.reduceEqDiff, Nat.reduceBEq, Nat.reduceLeDiff, Int.reduceToNat, Int.reduceLT, Int.reduceLE, Int.reduceEq, reduceCtorEq, ↓reduceIte, i44, c44, w5]
  cases b7 : (v6 : Bool)
  · replace h := br_f b7 h
    obtain ⟨v16, q14, h⟩ := bnd_some h
    have w15 := e44_2 (leI 2 a0.state) a0 a1 (⟨0, 0, 0, 0, 0⟩ : Session) v16 q14
    simp only [X44_2] at w15
    try simp -implicitDefEqProofs only [go_sem, Nat.reduceLT, Nat.reduceAdd, Nat.reduceSub, Nat.reduceMul, Nat.reduceEqDiff, Nat.reduceBEq, Nat.reduceLeDiff, Int.reduceToNat, Int.reduceLT, Int.reduceLE, Int.reduceEq, reduceCtorEq, ↓reduceIte] at w15
    try simp -implicitDefEqProofs only [go_sem, Nat.reduceLT, Nat.reduceAdd, Nat.reduceSub, Nat.reduceMul, Nat.reduceEqDiff, Nat.reduceBEq, Nat.reduceLeDiff, Int.reduceToNat, Int.reduceLT, Int.reduceLE, Int.reduceEq, reduceCtorEq, ↓reduceIte, i44, c44, w5, b7, w15]
    cases b17 : (v16 : Bool)
    · replace h := br_f b17 h
      obtain ⟨v26, q24, h⟩ := bnd_some h
      have w25 := e44_3 (leI 2 a0.state) a0 a1 (⟨0, 0, 0, 0, 0⟩ : Session) v26 q24
      simp only [X44_3] at w25
      try simp -implicitDefEqProofs only [go_sem, Nat.reduceLT, Nat.reduceAdd, Nat.reduceSub, Nat.reduceMul, Nat.reduceEqDiff, Nat.reduceBEq, Nat.reduceLeDiff, Int.reduceToNat, Int.reduceLT, Int.reduceLE, Int.reduceEq, reduceCtorEq, ↓reduceIte] at w25
      try simp -implicitDefEqProofs only [go_sem, Nat.reduceLT, Nat.reduceAdd, Nat.reduceSub, Nat.reduceMul, Nat.reduceEqDiff, Nat.reduceBEq, Nat.reduceLeDiff, Int.reduceToNat, Int.reduceLT, Int.reduceLE, Int.reduceEq, reduceCtorEq, ↓reduceIte, i44, c44, w5, b7, w15, b17, w25]
      cases b27 : (v26 : Bool)
      · replace h := br_f b27 h
        try simp -implicitDefEqProofs only [go_sem, Nat.reduceLT, Nat.reduceAdd, Nat.reduceSub, Nat.reduceMul, Nat.reduceEqDiff, Nat.reduceBEq, Nat.reduceLeDiff, Int.reduceToNat, Int.reduceLT, Int.reduceLE, Int.reduceEq, reduceCtorEq, ↓reduceIte, i44, c44, w5, b7, w15, b17, w25, b27]
        cases b31 : (leI 2 a0.state : Bool)
        · replace h := br_f b31 h
          cases h
          simp -implicitDefEqProofs only [go_sem, Nat.reduceLT, Nat.reduceAdd, Nat.reduceSub, Nat.reduceMul, Nat.reduceEqDiff, Nat.reduceBEq, Nat.reduceLeDiff, Int.reduceToNat, Int.reduceLT, Int.reduceLE, Int.reduceEq, reduceCtorEq, ↓reduceIte, i44, c44, w5, b7, w15, b17, w25, b27, b31]
        · replace h := br_t b31 h
          try simp -implicitDefEqProofs only [go_sem, Nat.reduceLT, Nat.reduceAdd, Nat.reduceSub, Nat.reduceMul, Nat.reduceEqDiff, Nat.reduceBEq, Nat.reduceLeDiff, Int.reduceToNat, Int.reduceLT, Int.reduceLE, Int.reduceEq, reduceCtorEq, ↓reduceIte, i44, c44, w5, b7, w15, b17, w25, b27, b31]
          cases b32 : (eqI a1.kind 4 : Bool)
          · replace h := br_f b32 h
            obtain ⟨v41, q39, h⟩ := bnd_some h
            have w40 := e44_4 a0 a1 (⟨0, 0, 0, 0, 0⟩ : Session) v41 q39
            simp only [X44_4] at w40
            try simp -implicitDefEqProofs only [go_sem, Nat.reduceLT, Nat.reduceAdd, Nat.reduceSub, Nat.reduceMul, Nat.reduceEqDiff, Nat.reduceBEq, Nat.reduceLeDiff, Int.reduceToNat, Int.reduceLT, Int.reduceLE, Int.reduceEq, reduceCtorEq, ↓reduceIte] at w40
            try simp -implicitDefEqProofs only [go_sem, Nat.reduceLT, Nat.reduceAdd, Nat.reduceSub, Nat.reduceMul, Nat.reduceEqDiff, Nat.reduceBEq, Nat.reduceLeDiff, Int.reduceToNat, Int.reduceLT, Int.reduceLE, Int.reduceEq, reduceCtorEq, ↓reduceIte, i44, c44, w5, b7, w15, b17, w25, b27, b31, b32, w40]
            cases b42 : (v41 : Bool)
            · replace h := br_f b42 h
              obtain ⟨v50, q48, h⟩ := bnd_some h
              have w49 := e44_5 a0 a1 (⟨0, 0, 0, 0, 0⟩ : Session) v50 q48
              simp only [X44_5] at w49
              try simp -implicitDefEqProofs only [go_sem, Nat.reduceLT, Nat.reduceAdd, Nat.reduceSub, Nat.reduceMul, Nat.reduceEqDiff, Nat.reduceBEq, Nat.reduceLeDiff, Int.reduceToNat, Int.reduceLT, Int.reduceLE, Int.reduceEq, reduceCtorEq, ↓reduceIte] at w49
              try simp -implicitDefEqProofs only [go_sem, Nat.reduceLT, Nat.reduceAdd, Nat.reduceSub, Nat.reduceMul, Nat.reduceEqDiff, Nat.reduceBEq, Nat.reduceLeDiff, Int.reduceToNat, Int.reduceLT, Int.reduceLE, Int.reduceEq, reduceCtorEq, ↓reduceIte, i44, c44, w5, b7, w15, b17, w25, b27, b31, b32, w40, b42, w49]
              cases b51 : (v50 : Bool)
              · replace h := br_f b51 h
                obtain ⟨v57, q55, h⟩ := bnd_some h
                have w56 := e44_6 a0 a1 (⟨0, 0, 0, 0, 0⟩ : Session) v57 q55
                simp only [X44_6] at w56
                try simp -implicitDefEqProofs only [go_sem, Nat.reduceLT, Nat.reduceAdd, Nat.reduceSub, Nat.reduceMul, Nat.reduceEqDiff, Nat.reduceBEq, Nat.reduceLeDiff, Int.reduceToNat, Int.reduceLT, Int.reduceLE, Int.reduceEq, reduceCtorEq, ↓reduceIte] at w56
                try simp -implicitDefEqProofs only [go_sem, Nat.reduceLT, Nat.reduceAdd, Nat.reduceSub, Nat.reduceMul, Nat.reduceEqDiff, Nat.reduceBEq, Nat.reduceLeDiff, Int.reduceToNat, Int.reduceLT, Int.reduceLE, Int.reduceEq, reduceCtorEq, ↓reduceIte, i44, c44, w5, b7, w15, b17, w25, b27, b31, b32, w40, b42, w49, b51, w56]
                cases b58 : (v57 : Bool)
                · replace h := br_f b58 h
                  try simp -implicitDefEqProofs only [go_sem, Nat.reduceLT, Nat.reduceAdd, Nat.reduceSub, Nat.reduceMul, Nat.reduceEqDiff, Nat.reduceBEq, Nat.reduceLeDiff, Int.reduceToNat, Int.reduceLT, Int.reduceLE, Int.reduceEq, reduceCtorEq, ↓reduceIte, i44, c44, w5, b7, w15, b17, w25, b27, b31, b32, w40, b42, w49, b51, w56, b58]
                  cases b59 : (eqI a1.kind 9 : Bool)
                  · replace h := br_f b59 h
                    try simp -implicitDefEqProofs only [go_sem, Nat.reduceLT, Nat.reduceAdd, Nat.reduceSub, Nat.reduceMul, Nat.reduceEqDiff, Nat.reduceBEq, Nat.reduceLeDiff, Int.reduceToNat, Int.reduceLT, Int.reduceLE, Int.reduceEq, reduceCtorEq, ↓reduceIte, i44, c44, w5, b7, w15, b17, w25, b27, b31, b32, w40, b42, w49, b51, w56, b58, b59]
                    cases b63 : (eqI a1.kind 10 : Bool)
                    · replace h := br_f b63 h
                      obtain ⟨r70, q68, h⟩ := bnd_some h
                      have w69 := e61 a0 0 r70 q68
                      try simp -implicitDefEqProofs only [go_sem, Nat.reduceLT, Nat.reduceAdd, Nat.reduceSub, Nat.reduceMul, Nat.reduceEqDiff, Nat.reduceBEq, Nat.reduceLeDiff, Int.reduceToNat, Int.reduceLT, Int.reduceLE, Int.reduceEq, reduceCtorEq, ↓reduceIte] at w69
                      cases h
                      simp -implicitDefEqProofs only [go_sem, Nat.reduceLT, Nat.reduceAdd, Nat.reduceSub, Nat.reduceMul, Nat.reduceEqDiff, Nat.reduceBEq, Nat.reduceLeDiff, Int.reduceToNat, Int.reduceLT, Int.reduceLE, Int.reduceEq, reduceCtorEq, ↓reduceIte, i44, c44, w5, b7, w15, b17, w25, b27, b31, b32, w40, b42, w49, b51, w56, b58, b59, b63, w69]
                    · replace h := br_t b63 h
                      obtain ⟨⟨r66, r67⟩, q64, h⟩ := bnd_some h
                      replace h := sel2_some h
                      have w65 := e62 a0 (r66, r67) q64
                      try simp -implicitDefEqProofs only [go_sem, Nat.reduceLT, Nat.reduceAdd, Nat.reduceSub, Nat.reduceMul, Nat.reduceEqDiff, Nat.reduceBEq, Nat.reduceLeDiff, Int.reduceToNat, Int.reduceLT, Int.reduceLE, Int.reduceEq, reduceCtorEq, ↓reduceIte] at w65
                      cases h
                      simp -implicitDefEqProofs only [go_sem, Nat.reduceLT, Nat.reduceAdd, Nat.reduceSub, Nat.reduceMul, Nat.reduceEqDiff, Nat.reduceBEq, Nat.reduceLeDiff, Int.reduceToNat, Int.reduceLT, Int.reduceLE, Int.reduceEq, reduceCtorEq, ↓reduceIte, i44, c44, w5, b7, w15, b17, w25, b27, b31, b32, w40, b42, w49, b51, w56, b58, b59, b63, w65]
                  · replace h := br_t b59 h
                    obtain ⟨r62, q60, h⟩ := bnd_some h
                    have w61 := e61 a0 0 r62 q60
                    try simp -implicitDefEqProofs only [go_sem, Nat.reduceLT, Nat.reduceAdd, Nat.reduceSub, Nat.reduceMul, Nat.reduceEqDiff, Nat.reduceBEq, Nat.reduceLeDiff, Int.reduceToNat, Int.reduceLT, Int.reduceLE, Int.reduceEq, reduceCtorEq, ↓reduceIte] at w61
                    cases h
                    simp -implicitDefEqProofs only [go_sem, Nat.reduceLT, Nat.reduceAdd, Nat.reduceSub, Nat.reduceMul, Nat.reduceEqDiff, Nat.reduceBEq, Nat.reduceLeDiff, Int.reduceToNat, Int.reduceLT, Int.reduceLE, Int.reduceEq, reduceCtorEq, ↓reduceIte, i44, c44, w5, b7, w15, b17, w25, b27, b31, b32, w40, b42, w49, b51, w56, b58, b59, w61]
                · replace h := br_t b58 h
                  cases h
                  simp -implicitDefEqProofs only [go_sem, Nat.reduceLT, Nat.reduceAdd, Nat.reduceSub, Nat.reduceMul, Nat.reduceEqDiff, Nat.reduceBEq, Nat.reduceLeDiff, Int.reduceToNat, Int.reduceLT, Int.reduceLE, Int.reduceEq, reduceCtorEq, ↓reduceIte, i44, c44, w5, b7, w15, b17, w25, b27, b31, b32, w40, b42, w49, b51, w56, b58]
              · replace h := br_t b51 h
                cases h
                simp -implicitDefEqProofs only [go_sem, Nat.reduceLT, Nat.reduceAdd, Nat.reduceSub, Nat.reduceMul, Nat.reduceEqDiff, Nat.reduceBEq, Nat.reduceLeDiff, Int.reduceToNat, Int.reduceLT, Int.reduceLE, Int.reduceEq, reduceCtorEq, ↓reduceIte, i44, c44, w5, b7, w15, b17, w25, b27, b31, b32, w40, b42, w49, b51]
            · replace h := br_t b42 h
              obtain ⟨r45, q43, h⟩ := bnd_some h
              have w44 := e61 a0 3 r45 q43
              try simp -implicitDefEqProofs only [go_sem, Nat.reduceLT, Nat.reduceAdd, Nat.reduceSub, Nat.reduceMul, Nat.reduceEqDiff, Nat.reduceBEq, Nat.reduceLeDiff, Int.reduceToNat, Int.reduceLT, Int.reduceLE, Int.reduceEq, reduceCtorEq, ↓reduceIte] at w44
              cases h
              simp -implicitDefEqProofs only [go_sem, Nat.reduceLT, Nat.reduceAdd, Nat.reduceSub, Nat.reduceMul, Nat.reduceEqDiff, Nat.reduceBEq, Nat.reduceLeDiff, Int.reduceToNat, Int.reduceLT, Int.reduceLE, Int.reduceEq, reduceCtorEq, ↓reduceIte, i44, c44, w5, b7, w15, b17, w25, b27, b31, b32, w40, b42, w44]
          · replace h := br_t b32 h
            obtain ⟨r35, q33, h⟩ := bnd_some h
            have w34 := e61 a0 1 r35 q33
            try simp -implicitDefEqProofs only [go_sem, Nat.reduceLT, Nat.reduceAdd, Nat.reduceSub, Nat.reduceMul, Nat.reduceEqDiff, Nat.reduceBEq, Nat.reduceLeDiff, Int.reduceToNat, Int.reduceLT, Int.reduceLE, Int.reduceEq, reduceCtorEq, ↓reduceIte] at w34
            cases h
            simp -implicitDefEqProofs only [go_sem, Nat.reduceLT, Nat.reduceAdd, Nat.reduceSub, Nat.reduceMul, Nat.reduceEqDiff, Nat.reduceBEq, Nat.reduceLeDiff, Int.reduceToNat, Int.reduceLT, Int.reduceLE, Int.reduceEq, reduceCtorEq, ↓reduceIte, i44, c44, w5, b7, w15, b17, w25, b27, b31, b32, w34]
      · replace h := br_t b27 h
        obtain ⟨r30, q28, h⟩ := bnd_some h
        have w29 := e61 a0 2 r30 q28
        try simp -implicitDefEqProofs only [go_sem, Nat.reduceLT, Nat.reduceAdd, Nat.reduceSub, Nat.reduceMul, Nat.reduceEqDiff, Nat.reduceBEq, Nat.reduceLeDiff, Int.reduceToNat, Int.reduceLT, Int.reduceLE, Int.reduceEq, reduceCtorEq, ↓reduceIte] at w29
        cases h
        simp -implicitDefEqProofs only [go_sem, Nat.reduceLT, Nat.reduceAdd, Nat.reduceSub, Nat.reduceMul, Nat.reduceEqDiff, Nat.reduceBEq, Nat.reduceLeDiff, Int.reduceToNat, Int.reduceLT, Int.reduceLE, Int.reduceEq, reduceCtorEq, ↓reduceIte, i44, c44, w5, b7, w15, b17, w25, b27, w29]
    · replace h := br_t b17 h
      obtain ⟨r20, q18, h⟩ := bnd_some h
      have w19 := e61 a0 0 r20 q18
      try simp -implicitDefEqProofs only [go_sem, Nat.reduceLT, Nat.reduceAdd, Nat.reduceSub, Nat.reduceMul, Nat.reduceEqDiff, Nat.reduceBEq, Nat.reduceLeDiff, Int.reduceToNat, Int.reduceLT, Int.reduceLE, Int.reduceEq, reduceCtorEq, ↓reduceIte] at w19
      cases h
      simp -implicitDefEqProofs only [go_sem, Nat.reduceLT, Nat.reduceAdd, Nat.reduceSub, Nat.reduceMul, Nat.reduceEqDiff, Nat.reduceBEq, Nat.reduceLeDiff, Int.reduceToNat, Int.reduceLT, Int.reduceLE, Int.reduceEq, reduceCtorEq, ↓reduceIte, i44, c44, w5, b7, w15, b17, w19]
  · replace h := br_t b7 h
    obtain ⟨r10, q8, h⟩ := bnd_some h
    have w9 := e61 a0 1 r10 q8
    try simp -implicitDefEqProofs only [go_sem, Nat.reduceLT, Nat.reduceAdd, Nat.reduceSub, Nat.reduceMul, Nat.reduceEqDiff, Nat.reduceBEq, Nat.reduceLeDiff, Int.reduceToNat, Int.reduceLT, Int.reduceLE, Int.reduceEq, reduceCtorEq, ↓reduceIte] at w9
    cases h
    simp -implicitDefEqProofs only [go_sem, Nat.reduceLT, Nat.reduceAdd, Nat.reduceSub, Nat.reduceMul, Nat.reduceEqDiff, Nat.reduceBEq, Nat.reduceLeDiff, Int.reduceToNat, Int.reduceLT, Int.reduceLE, Int.reduceEq, reduceCtorEq, ↓reduceIte, i44, c44, w5, b7, w9]
-- f53 (*impl.side).do
theorem call53 (args : List AV) (S : St) : evCall T (evFL T) 53 args S = c3A true (evFL T 53) (rawAll S [[0], [0], [0, 0]] args) := evCall3_a fn53 rfl args S
attribute [go_sem] call53
theorem e53 (a0 : side) (a1 : side) (a2 : Evt) (r : (Session × List Int)) (h : m53 a0 a1 a2 = some r) : evFL T 53 [.ptr 0 0 0, .ptr 2 0 0, .agg [.int .i64 a2.kind, .int .i64 a2.n]] [some ⟨.box, 7, [[.int .i64 a0.session.state, .int .i64 a0.session.hold, .int .i64 a0.session.left, .int .i64 a0.session.quiet, .int .i64 a0.session.ups, .int .i64 a0.began, .sl 1 0 a0.heard.length]]⟩, some ⟨.arr, 1, a0.heard.map encInt⟩, some ⟨.box, 7, [[.int .i64 a1.session.state, .int .i64 a1.session.hold, .int .i64 a1.session.left, .int .i64 a1.session.quiet, .int .i64 a1.session.ups, .int .i64 a1.began, .sl 3 0 a1.heard.length]]⟩, some ⟨.arr, 1, a1.heard.map encInt⟩] = some (.tup [], [some ⟨.box, 7, [[.int .i64 r.1.state, .int .i64 r.1.hold, .int .i64 r.1.left, .int .i64 r.1.quiet, .int .i64 r.1.ups, .int .i64 a0.began, .sl 4 0 a0.heard.length]]⟩, none, some ⟨.box, 7, [[.int .i64 a1.session.state, .int .i64 a1.session.hold, .int .i64 a1.session.left, .int .i64 a1.session.quiet, .int .i64 a1.session.ups, .int .i64 a1.began, .sl 5 0 r.2.length]]⟩, none, some ⟨.arr, 1, a0.heard.map encInt⟩, some ⟨.arr, 1, r.2.map encInt⟩]) := by
  unfold m53 at h
  rw [evFL_at fn53 (Nat.le_of_ble_eq_true rfl) rfl (.inl rfl)]
  obtain ⟨⟨r3, r4⟩, q1, h⟩ := bnd_some h
  replace h := sel2_some h
  have w2 := e44 a0.session a2 (r3, r4) q1
  try simp -implicitDefEqProofs only [go_sem, Nat.reduceLT, Nat.reduceAdd, Nat.reduceSub, Nat.reduceMul, Nat.reduceEqDiff, Nat.reduceBEq, Nat.reduceLeDiff, Int.reduceToNat, Int.reduceLT, Int.reduceLE, Int.reduceEq, reduceCtorEq, ↓reduceIte] at w2
  obtain ⟨g5, h⟩ := ck_some h
  try simp -implicitDefEqProofs only [go_sem, Nat.reduceLT, Nat.reduceAdd, Nat.reduceSub, Nat.reduceMul, Nat.reduceEqDiff, Nat.reduceBEq, Nat.reduceLeDiff, Int.reduceToNat, Int.reduceLT, Int.reduceLE, Int.reduceEq, reduceCtorEq, ↓reduceIte] at g5
  cases h
  simp -implicitDefEqProofs only [go_sem, Nat.reduceLT, Nat.reduceAdd, Nat.reduceSub, Nat.reduceMul, Nat.reduceEqDiff, Nat.reduceBEq, Nat.reduceLeDiff, Int.reduceToNat, Int.reduceLT, Int.reduceLE, Int.reduceEq, reduceCtorEq, ↓reduceIte, i53, c53, w2, g5]
-- f54 (*impl.side).hear
def X54_4 (p14 : Bool) (a0 : side) (a1 : side) (p8 : Evt) (o : Evt) : Ex × Fr × St :=
  (.normal, frOf 46 (upd (upd (upd anyF 0 (.ptr 0 0 0)) 1 (.ptr 2 0 0)) 4 (.ptr 4 0 0)), [some ⟨.box, 7, [[.int .i64 a0.session.state, .int .i64 a0.session.hold, .int .i64 a0.session.left, .int .i64 a0.session.quiet, .int .i64 a0.session.ups, .int .i64 a0.began, .sl 1 0 a0.heard.length]]⟩, some ⟨.arr, 1, a0.heard.map encInt⟩, some ⟨.box, 7, [[.int .i64 a1.session.state, .int .i64 a1.session.hold, .int .i64 a1.session.left, .int .i64 a1.session.quiet, .int .i64 a1.session.ups, .int .i64 a1.began, .sl 3 0 a1.heard.length]]⟩, some ⟨.arr, 1, a1.heard.map encInt⟩, some ⟨.box, 2, [[.int .i64 o.kind, .int .i64 o.n]]⟩])
theorem e54_4 (p14 : Bool) (a0 : side) (a1 : side) (p8 : Evt) (o : Evt) (h : m54_4 p14 p8 = some o) : evCL T 4 k54_4 (frOf 46 (upd (upd (upd (upd anyF 0 (.ptr 0 0 0)) 1 (.ptr 2 0 0)) 4 (.ptr 4 0 0)) 31 (.bool p14))) [some ⟨.box, 7, [[.int .i64 a0.session.state, .int .i64 a0.session.hold, .int .i64 a0.session.left, .int .i64 a0.session.quiet, .int .i64 a0.session.ups, .int .i64 a0.began, .sl 1 0 a0.heard.length]]⟩, some ⟨.arr, 1, a0.heard.map encInt⟩, some ⟨.box, 7, [[.int .i64 a1.session.state, .int .i64 a1.session.hold, .int .i64 a1.session.left, .int .i64 a1.session.quiet, .int .i64 a1.session.ups, .int .i64 a1.began, .sl 3 0 a1.heard.length]]⟩, some ⟨.arr, 1, a1.heard.map encInt⟩, some ⟨.box, 2, [[.int .i64 p8.kind, .int .i64 p8.n]]⟩] = some (X54_4 p14 a0 a1 p8 o) := by
  unfold m54_4 at h
  try simp -implicitDefEqProofs only [go_sem, Nat.reduceLT, Nat.reduceAdd, Nat.reduceSub, Nat.reduceMul, Nat.reduceEqDiff, Nat.reduceBEq, Nat.reduceLeDiff, Int.reduceToNat, Int.reduceLT, Int.reduceLE, Int.reduceEq, reduceCtorEq, ↓reduceIte, X54_4, k54_4]
  cases b15 : (p14 : Bool)
  · replace h := br_f b15 h
    cases h
    simp -implicitDefEqProofs only [go_sem, Nat.reduceLT, Nat.reduceAdd, Nat.reduceSub, Nat.reduceMul, Nat.reduceEqDiff, Nat.reduceBEq, Nat.reduceLeDiff, Int.reduceToNat, Int.reduceLT, Int.reduceLE, Int.reduceEq, reduceCtorEq, ↓reduceIte, X54_4, k54_4, b15]
  · replace h := br_t b15 h
    cases h
    simp -implicitDefEqProofs only [go_sem, Nat.reduceLT, Nat.reduceAdd, Nat.reduceSub, Nat.reduceMul, Nat.reduceEqDiff, Nat.reduceBEq, Nat.reduceLeDiff, Int.reduceToNat, Int.reduceLT, Int.reduceLE, Int.reduceEq, reduceCtorEq, ↓reduceIte, X54_4, k54_4, b15]
def X54_3 (x2 : Int) (p12 : Bool) (a0 : side) (a1 : side) (p8 : Evt) (o : Evt) : Ex × Fr × St :=
  (.normal, frOf 46 (upd (upd (upd anyF 0 (.ptr 0 0 0)) 1 (.ptr 2 0 0)) 4 (.ptr 4 0 0)), [some ⟨.box, 7, [[.int .i64 a0.session.state, .int .i64 a0.session.hold, .int .i64 a0.session.left, .int .i64 a0.session.quiet, .int .i64 a0.session.ups, .int .i64 a0.began, .sl 1 0 a0.heard.length]]⟩, some ⟨.arr, 1, a0.heard.map encInt⟩, some ⟨.box, 7, [[.int .i64 a1.session.state, .int .i64 a1.session.hold, .int .i64 a1.session.left, .int .i64 a1.session.quiet, .int .i64 a1.session.ups, .int .i64 a1.began, .sl 3 0 a1.heard.length]]⟩, some ⟨.arr, 1, a1.heard.map encInt⟩, some ⟨.box, 2, [[.int .i64 o.kind, .int .i64 o.n]]⟩])
theorem e54_3 (x2 : Int) (p12 : Bool) (a0 : side) (a1 : side) (p8 : Evt) (o : Evt) (h : m54_3 x2 p12 p8 = some o) : evCL T 4 k54_3 (frOf 46 (upd (upd (upd (upd (upd anyF 0 (.ptr 0 0 0)) 1 (.ptr 2 0 0)) 4 (.ptr 4 0 0)) 17 (.int .i64 x2)) 28 (.bool p12))) [some ⟨.box, 7, [[.int .i64 a0.session.state, .int .i64 a0.session.hold, .int .i64 a0.session.left, .int .i64 a0.session.quiet, .int .i64 a0.session.ups, .int .i64 a0.began, .sl 1 0 a0.heard.length]]⟩, some ⟨.arr, 1, a0.heard.map encInt⟩, some ⟨.box, 7, [[.int .i64 a1.session.state, .int .i64 a1.session.hold, .int .i64 a1.session.left, .int .i64 a1.session.quiet, .int .i64 a1.session.ups, .int .i64 a1.began, .sl 3 0 a1.heard.length]]⟩, some ⟨.arr, 1, a1.heard.map encInt⟩, some ⟨.box, 2, [[.int .i64 p8.kind, .int .i64 p8.n]]⟩] = some (X54_3 x2 p12 a0 a1 p8 o) := by
  unfold m54_3 at h
  try simp -implicitDefEqProofs only [go_sem, Nat.reduceLT, Nat.reduceAdd, Nat.reduceSub, Nat.reduceMul, Nat.reduceEqDiff, Nat.reduceBEq, Nat.reduceLeDiff, Int.reduceToNat, Int.reduceLT, Int.reduceLE, Int.reduceEq, reduceCtorEq, ↓reduceIte, X54_3, k54_3]
  cases b13 : (p12 : Bool)
  · replace h := br_f b13 h
    obtain ⟨v18, q16, h⟩ := bnd_some h
    have w17 := e54_4 (eqI x2 4) a0 a1 p8 v18 q16
    simp only [X54_4] at w17
    try simp -implicitDefEqProofs only [go_sem, Nat.reduceLT, Nat.reduceAdd, Nat.reduceSub, Nat.reduceMul, Nat.reduceEqDiff, Nat.reduceBEq, Nat.reduceLeDiff, Int.reduceToNat, Int.reduceLT, Int.reduceLE, Int.reduceEq, reduceCtorEq, ↓reduceIte] at w17
    cases h
    simp -implicitDefEqProofs only [go_sem, Nat.reduceLT, Nat.reduceAdd, Nat.reduceSub, Nat.reduceMul, Nat.reduceEqDiff, Nat.reduceBEq, Nat.reduceLeDiff, Int.reduceToNat, Int.reduceLT, Int.reduceLE, Int.reduceEq, reduceCtorEq, ↓reduceIte, X54_3, k54_3, b13, w17]
  · replace h := br_t b13 h
    cases h
    simp -implicitDefEqProofs only [go_sem, Nat.reduceLT, Nat.reduceAdd, Nat.reduceSub, Nat.reduceMul, Nat.reduceEqDiff, Nat.reduceBEq, Nat.reduceLeDiff, Int.reduceToNat, Int.reduceLT, Int.reduceLE, Int.reduceEq, reduceCtorEq, ↓reduceIte, X54_3, k54_3, b13]
def X54_2 (x2 : Int) (p10 : Bool) (a0 : side) (a1 : side) (p8 : Evt) (o : Evt) : Ex × Fr × St :=
  (.normal, frOf 46 (upd (upd (upd anyF 0 (.ptr 0 0 0)) 1 (.ptr 2 0 0)) 4 (.ptr 4 0 0)), [some ⟨.box, 7, [[.int .i64 a0.session.state, .int .i64 a0.session.hold, .int .i64 a0.session.left, .int .i64 a0.session.quiet, .int .i64 a0.session.ups, .int .i64 a0.began, .sl 1 0 a0.heard.length]]⟩, some ⟨.arr, 1, a0.heard.map encInt⟩, some ⟨.box, 7, [[.int .i64 a1.session.state, .int .i64 a1.session.hold, .int .i64 a1.session.left, .int .i64 a1.session.quiet, .int .i64 a1.session.ups, .int .i64 a1.began, .sl 3 0 a1.heard.length]]⟩, some ⟨.arr, 1, a1.heard.map encInt⟩, some ⟨.box, 2, [[.int .i64 o.kind, .int .i64 o.n]]⟩])
theorem e54_2 (x2 : Int) (p10 : Bool) (a0 : side) (a1 : side) (p8 : Evt) (o : Evt) (h : m54_2 x2 p10 p8 = some o) : evCL T 4 k54_2 (frOf 46 (upd (upd (upd (upd (upd anyF 0 (.ptr 0 0 0)) 1 (.ptr 2 0 0)) 4 (.ptr 4 0 0)) 17 (.int .i64 x2)) 25 (.bool p10))) [some ⟨.box, 7, [[.int .i64 a0.session.state, .int .i64 a0.session.hold, .int .i64 a0.session.left, .int .i64 a0.session.quiet, .int .i64 a0.session.ups, .int .i64 a0.began, .sl 1 0 a0.heard.length]]⟩, some ⟨.arr, 1, a0.heard.map encInt⟩, some ⟨.box, 7, [[.int .i64 a1.session.state, .int .i64 a1.session.hold, .int .i64 a1.session.left, .int .i64 a1.session.quiet, .int .i64 a1.session.ups, .int .i64 a1.began, .sl 3 0 a1.heard.length]]⟩, some ⟨.arr, 1, a1.heard.map encInt⟩, some ⟨.box, 2, [[.int .i64 p8.kind, .int .i64 p8.n]]⟩] = some (X54_2 x2 p10 a0 a1 p8 o) := by
  unfold m54_2 at h
  try simp -implicitDefEqProofs only [go_sem, Nat.reduceLT, Nat.reduceAdd, Nat.reduceSub, Nat.reduceMul, Nat.reduceEqDiff, Nat.reduceBEq, Nat.reduceLeDiff, Int.reduceToNat, Int.reduceLT, Int.reduceLE, Int.reduceEq, reduceCtorEq, ↓reduceIte, X54_2, k54_2]
  cases b11 : (p10 : Bool)
  · replace h := br_f b11 h
    obtain ⟨v21, q19, h⟩ := bnd_some h
    have w20 := e54_3 x2 (eqI x2 3) a0 a1 p8 v21 q19
    simp only [X54_3] at w20
    try simp -implicitDefEqProofs only [go_sem, Nat.reduceLT, Nat.reduceAdd, Nat.reduceSub, Nat.reduceMul, Nat.reduceEqDiff, Nat.reduceBEq, Nat.reduceLeDiff, Int.reduceToNat, Int.reduceLT, Int.reduceLE, Int.reduceEq, reduceCtorEq, ↓reduceIte] at w20
    cases h
    simp -implicitDefEqProofs only [go_sem, Nat.reduceLT, Nat.reduceAdd, Nat.reduceSub, Nat.reduceMul, Nat.reduceEqDiff, Nat.reduceBEq, Nat.reduceLeDiff, Int.reduceToNat, Int.reduceLT, Int.reduceLE, Int.reduceEq, reduceCtorEq, ↓reduceIte, X54_2, k54_2, b11, w20]
  · replace h := br_t b11 h
    cases h
    simp -implicitDefEqProofs only [go_sem, Nat.reduceLT, Nat.reduceAdd, Nat.reduceSub, Nat.reduceMul, Nat.reduceEqDiff, Nat.reduceBEq, Nat.reduceLeDiff, Int.reduceToNat, Int.reduceLT, Int.reduceLE, Int.reduceEq, reduceCtorEq, ↓reduceIte, X54_2, k54_2, b11]
def X54_1 (x2 : Int) (p7 : Bool) (a0 : side) (a1 : side) (p8 : Evt) (o : Evt) : Ex × Fr × St :=
  (.normal, frOf 46 (upd (upd (upd anyF 0 (.ptr 0 0 0)) 1 (.ptr 2 0 0)) 4 (.ptr 4 0 0)), [some ⟨.box, 7, [[.int .i64 a0.session.state, .int .i64 a0.session.hold, .int .i64 a0.session.left, .int .i64 a0.session.quiet, .int .i64 a0.session.ups, .int .i64 a0.began, .sl 1 0 a0.heard.length]]⟩, some ⟨.arr, 1, a0.heard.map encInt⟩, some ⟨.box, 7, [[.int .i64 a1.session.state, .int .i64 a1.session.hold, .int .i64 a1.session.left, .int .i64 a1.session.quiet, .int .i64 a1.session.ups, .int .i64 a1.began, .sl 3 0 a1.heard.length]]⟩, some ⟨.arr, 1, a1.heard.map encInt⟩, some ⟨.box, 2, [[.int .i64 o.kind, .int .i64 o.n]]⟩])
theorem e54_1 (x2 : Int) (p7 : Bool) (a0 : side) (a1 : side) (p8 : Evt) (o : Evt) (h : m54_1 x2 p7 a1 p8 = some o) : evCL T 4 k54_1 (frOf 46 (upd (upd (upd (upd (upd anyF 0 (.ptr 0 0 0)) 1 (.ptr 2 0 0)) 4 (.ptr 4 0 0)) 17 (.int .i64 x2)) 18 (.bool p7))) [some ⟨.box, 7, [[.int .i64 a0.session.state, .int .i64 a0.session.hold, .int .i64 a0.session.left, .int .i64 a0.session.quiet, .int .i64 a0.session.ups, .int .i64 a0.began, .sl 1 0 a0.heard.length]]⟩, some ⟨.arr, 1, a0.heard.map encInt⟩, some ⟨.box, 7, [[.int .i64 a1.session.state, .int .i64 a1.session.hold, .int .i64 a1.session.left, .int .i64 a1.session.quiet, .int .i64 a1.session.ups, .int .i64 a1.began, .sl 3 0 a1.heard.length]]⟩, some ⟨.arr, 1, a1.heard.map encInt⟩, some ⟨.box, 2, [[.int .i64 p8.kind, .int .i64 p8.n]]⟩] = some (X54_1 x2 p7 a0 a1 p8 o) := by
  unfold m54_1 at h
  try simp -implicitDefEqProofs only [go_sem, Nat.reduceLT, Nat.reduceAdd, Nat.reduceSub, Nat.reduceMul, Nat.reduceEqDiff, Nat.reduceBEq, Nat.reduceLeDiff, Int.reduceToNat, Int.reduceLT, Int.reduceLE, Int.reduceEq, reduceCtorEq, ↓reduceIte, X54_1, k54_1]
  cases b9 : (p7 : Bool)
  · replace h := br_f b9 h
    obtain ⟨v24, q22, h⟩ := bnd_some h
    have w23 := e54_2 x2 (eqI x2 2) a0 a1 p8 v24 q22
    simp only [X54_2] at w23
    try simp -implicitDefEqProofs only [go_sem, Nat.reduceLT, Nat.reduceAdd, Nat.reduceSub, Nat.reduceMul, Nat.reduceEqDiff, Nat.reduceBEq, Nat.reduceLeDiff, Int.reduceToNat, Int.reduceLT, Int.reduceLE, Int.reduceEq, reduceCtorEq, ↓reduceIte] at w23
    cases h
    simp -implicitDefEqProofs only [go_sem, Nat.reduceLT, Nat.reduceAdd, Nat.reduceSub, Nat.reduceMul, Nat.reduceEqDiff, Nat.reduceBEq, Nat.reduceLeDiff, Int.reduceToNat, Int.reduceLT, Int.reduceLE, Int.reduceEq, reduceCtorEq, ↓reduceIte, X54_1, k54_1, b9, w23]
  · replace h := br_t b9 h
    cases h
    simp -implicitDefEqProofs only [go_sem, Nat.reduceLT, Nat.reduceAdd, Nat.reduceSub, Nat.reduceMul, Nat.reduceEqDiff, Nat.reduceBEq, Nat.reduceLeDiff, Int.reduceToNat, Int.reduceLT, Int.reduceLE, Int.reduceEq, reduceCtorEq, ↓reduceIte, X54_1, k54_1, b9]
theorem call54 (args : List AV) (S : St) : evCall T (evFL T) 54 args S = c3A true (evFL T 54) (rawAll S [[0], [0]] args) := evCall3_a fn54 rfl args S
attribute [go_sem] call54
theorem e54 (a0 : side) (a1 : side) (r : (Session × List Int × List Int)) (h : m54 a0 a1 = some r) : evFL T 54 [.ptr 0 0 0, .ptr 2 0 0] [some ⟨.box, 7, [[.int .i64 a0.session.state, .int .i64 a0.session.hold, .int .i64 a0.session.left, .int .i64 a0.session.quiet, .int .i64 a0.session.ups, .int .i64 a0.began, .sl 1 0 a0.heard.length]]⟩, some ⟨.arr, 1, a0.heard.map encInt⟩, some ⟨.box, 7, [[.int .i64 a1.session.state, .int .i64 a1.session.hold, .int .i64 a1.session.left, .int .i64 a1.session.quiet, .int .i64 a1.session.ups, .int .i64 a1.began, .sl 3 0 a1.heard.length]]⟩, some ⟨.arr, 1, a1.heard.map encInt⟩] = some (.tup [], [some ⟨.box, 7, [[.int .i64 r.1.state, .int .i64 r.1.hold, .int .i64 r.1.left, .int .i64 r.1.quiet, .int .i64 r.1.ups, .int .i64 a0.began, .sl 4 0 r.2.1.length]]⟩, none, some ⟨.box, 7, [[.int .i64 a1.session.state, .int .i64 a1.session.hold, .int .i64 a1.session.left, .int .i64 a1.session.quiet, .int .i64 a1.session.ups, .int .i64 a1.began, .sl 5 0 r.2.2.length]]⟩, none, some ⟨.arr, 1, r.2.1.map encInt⟩, some ⟨.arr, 1, r.2.2.map encInt⟩]) := by
  unfold m54 at h
  rw [evFL_at fn54 (Nat.le_of_ble_eq_true rfl) rfl (.inl rfl)]
  try simp -implicitDefEqProofs only [go_sem, Nat.reduceLT, Nat.reduceAdd, Nat.reduceSub, Nat.reduceMul, Nat.reduceEqDiff, Nat.reduceBEq, Nat.reduceLeDiff, Int.reduceToNat, Int.reduceLT, Int.reduceLE, Int.reduceEq, reduceCtorEq, ↓reduceIte, i54, c54]
  cases b1 : (eqI (↑a0.heard.length : Int) 0 : Bool)
  · replace h := br_f b1 h
    obtain ⟨x2, q3, h⟩ := bnd_some h
    obtain ⟨g4, g5, g6⟩ := idx_row encInt q3
    try simp -implicitDefEqProofs only [go_sem, Nat.reduceLT, Nat.reduceAdd, Nat.reduceSub, Nat.reduceMul, Nat.reduceEqDiff, Nat.reduceBEq, Nat.reduceLeDiff, Int.reduceToNat, Int.reduceLT, Int.reduceLE, Int.reduceEq, reduceCtorEq, ↓reduceIte] at g5
    try simp -implicitDefEqProofs only [go_sem, Nat.reduceLT, Nat.reduceAdd, Nat.reduceSub, Nat.reduceMul, Nat.reduceEqDiff, Nat.reduceBEq, Nat.reduceLeDiff, Int.reduceToNat, Int.reduceLT, Int.reduceLE, Int.reduceEq, reduceCtorEq, ↓reduceIte] at g6
    obtain ⟨v27, q25, h⟩ := bnd_some h
    have w26 := e54_1 x2 (eqI x2 1) a0 a1 (⟨0, 0⟩ : Evt) v27 q25
    simp only [X54_1] at w26
    try simp -implicitDefEqProofs only [go_sem, Nat.reduceLT, Nat.reduceAdd, Nat.reduceSub, Nat.reduceMul, Nat.reduceEqDiff, Nat.reduceBEq, Nat.reduceLeDiff, Int.reduceToNat, Int.reduceLT, Int.reduceLE, Int.reduceEq, reduceCtorEq, ↓reduceIte] at w26
    obtain ⟨g28, h⟩ := ck_some h
    try simp -implicitDefEqProofs only [go_sem, Nat.reduceLT, Nat.reduceAdd, Nat.reduceSub, Nat.reduceMul, Nat.reduceEqDiff, Nat.reduceBEq, Nat.reduceLeDiff, Int.reduceToNat, Int.reduceLT, Int.reduceLE, Int.reduceEq, reduceCtorEq, ↓reduceIte] at g28
    have g29 : 1 + (a0.heard.length - 1) ≤ a0.heard.length := by (try simp only [List.length_take, List.length_drop, List.length_append, List.length_set, List.length_cons, List.length_nil]); omega
    obtain ⟨⟨r32, r33⟩, q30, h⟩ := bnd_some h
    replace h := sel2_some h
    have w31 := e53 (⟨a0.session, a0.began, (a0.heard.drop 1).take (a0.heard.length - 1)⟩ : side) a1 v27 (r32, r33) q30
    try simp -implicitDefEqProofs only [go_sem, Nat.reduceLT, Nat.reduceAdd, Nat.reduceSub, Nat.reduceMul, Nat.reduceEqDiff, Nat.reduceBEq, Nat.reduceLeDiff, Int.reduceToNat, Int.reduceLT, Int.reduceLE, Int.reduceEq, reduceCtorEq, ↓reduceIte, g29] at w31
    cases h
    simp -implicitDefEqProofs only [go_sem, Nat.reduceLT, Nat.reduceAdd, Nat.reduceSub, Nat.reduceMul, Nat.reduceEqDiff, Nat.reduceBEq, Nat.reduceLeDiff, Int.reduceToNat, Int.reduceLT, Int.reduceLE, Int.reduceEq, reduceCtorEq, ↓reduceIte, i54, c54, b1, g4, g5, g6, w26, g28, g29, w31]
  · replace h := br_t b1 h
    cases h
    simp -implicitDefEqProofs only [go_sem, Nat.reduceLT, Nat.reduceAdd, Nat.reduceSub, Nat.reduceMul, Nat.reduceEqDiff, Nat.reduceBEq, Nat.reduceLeDiff, Int.reduceToNat, Int.reduceLT, Int.reduceLE, Int.reduceEq, reduceCtorEq, ↓reduceIte, i54, c54, b1]
-- f33 impl.PlayPair
def X33_1 (a0 : Int) (a1 : Int) (a2 : (List Int)) (r4 : Bool) (r8 : Bool) (p9 : Session) (p10 : Session) (r3 : Session) (r7 : Session) (o : Bool) : Ex × Fr × St :=
  (.normal, frOf 107 (upd (upd (upd (upd (upd (upd (upd (upd anyF 0 (.int .i64 a0)) 1 (.int .i64 a1)) 2 (.ts .imm 1 (a2.map encInt))) 6 (.ptr 0 0 0)) 7 (.ptr 1 0 0)) 9 (.ptr 2 0 0)) 11 (.ptr 3 0 0)) 43 (.bool o)), [some ⟨.box, 5, [[.int .i64 p9.state, .int .i64 p9.hold, .int .i64 p9.left, .int .i64 p9.quiet, .int .i64 p9.ups]]⟩, some ⟨.box, 5, [[.int .i64 p10.state, .int .i64 p10.hold, .int .i64 p10.left, .int .i64 p10.quiet, .int .i64 p10.ups]]⟩, some ⟨.box, 5, [[.int .i64 r3.state, .int .i64 r3.hold, .int .i64 r3.left, .int .i64 r3.quiet, .int .i64 r3.ups]]⟩, some ⟨.box, 5, [[.int .i64 r7.state, .int .i64 r7.hold, .int .i64 r7.left, .int .i64 r7.quiet, .int .i64 r7.ups]]⟩])
theorem e33_1 (a0 : Int) (a1 : Int) (a2 : (List Int)) (r4 : Bool) (r8 : Bool) (p9 : Session) (p10 : Session) (r3 : Session) (r7 : Session) (o : Bool) (h : m33_1 a2 r4 r8 = some o) : evCL T 0 k33_1 (frOf 107 (upd (upd (upd (upd (upd (upd (upd (upd (upd anyF 0 (.int .i64 a0)) 1 (.int .i64 a1)) 2 (.ts .imm 1 (a2.map encInt))) 6 (.ptr 0 0 0)) 7 (.ptr 1 0 0)) 9 (.ptr 2 0 0)) 10 (.bool r4)) 11 (.ptr 3 0 0)) 12 (.bool r8))) [some ⟨.box, 5, [[.int .i64 p9.state, .int .i64 p9.hold, .int .i64 p9.left, .int .i64 p9.quiet, .int .i64 p9.ups]]⟩, some ⟨.box, 5, [[.int .i64 p10.state, .int .i64 p10.hold, .int .i64 p10.left, .int .i64 p10.quiet, .int .i64 p10.ups]]⟩, some ⟨.box, 5, [[.int .i64 r3.state, .int .i64 r3.hold, .int .i64 r3.left, .int .i64 r3.quiet, .int .i64 r3.ups]]⟩, some ⟨.box, 5, [[.int .i64 r7.state, .int .i64 r7.hold, .int .i64 r7.left, .int .i64 r7.quiet, .int .i64 r7.ups]]⟩] = some (X33_1 a0 a1 a2 r4 r8 p9 p10 r3 r7 o) := by
  unfold m33_1 at h
  try simp -implicitDefEqProofs only [go_sem, Nat.reduceLT, Nat.reduceAdd, Nat.reduceSub, Nat.reduceMul, Nat.reduceEqDiff, Nat.reduceBEq, Nat.reduceLeDiff, Int.reduceToNat, Int.reduceLT, Int.reduceLE, Int.reduceEq, reduceCtorEq, ↓reduceIte, X33_1, k33_1]
  cases b11 : (r4 : Bool)
  · replace h := br_f b11 h
    cases h
    simp -implicitDefEqProofs only [go_sem, Nat.reduceLT, Nat.reduceAdd, Nat.reduceSub, Nat.reduceMul, Nat.reduceEqDiff, Nat.reduceBEq, Nat.reduceLeDiff, Int.reduceToNat, Int.reduceLT, Int.reduceLE, Int.reduceEq, reduceCtorEq, ↓reduceIte, X33_1, k33_1, b11]
  · replace h := br_t b11 h
    try simp -implicitDefEqProofs only [go_sem, Nat.reduceLT, Nat.reduceAdd, Nat.reduceSub, Nat.reduceMul, Nat.reduceEqDiff, Nat.reduceBEq, Nat.reduceLeDiff, Int.reduceToNat, Int.reduceLT, Int.reduceLE, Int.reduceEq, reduceCtorEq, ↓reduceIte, X33_1, k33_1, b11]
    cases b12 : (r8 : Bool)
    · replace h := br_f b12 h
      cases h
      simp -implicitDefEqProofs only [go_sem, Nat.reduceLT, Nat.reduceAdd, Nat.reduceSub, Nat.reduceMul, Nat.reduceEqDiff, Nat.reduceBEq, Nat.reduceLeDiff, Int.reduceToNat, Int.reduceLT, Int.reduceLE, Int.reduceEq, reduceCtorEq, ↓reduceIte, X33_1, k33_1, b11, b12]
    · replace h := br_t b12 h
      try simp -implicitDefEqProofs only [go_sem, Nat.reduceLT, Nat.reduceAdd, Nat.reduceSub, Nat.reduceMul, Nat.reduceEqDiff, Nat.reduceBEq, Nat.reduceLeDiff, Int.reduceToNat, Int.reduceLT, Int.reduceLE, Int.reduceEq, reduceCtorEq, ↓reduceIte, X33_1, k33_1, b11, b12]
      cases b13 : (ltI 100 (↑a2.length : Int) : Bool)
      · replace h := br_f b13 h
        obtain ⟨r16, q14, h⟩ := bnd_some h
        have w15 := e51 a2 (fun y0 => m52 y0) 52 [] ⟨⟨fun S => by simp -implicitDefEqProofs only [go_sem, Nat.reduceLT, Nat.reduceAdd, Nat.reduceSub, Nat.reduceMul, Nat.reduceEqDiff, Nat.reduceBEq, Nat.reduceLeDiff, Int.reduceToNat, Int.reduceLT, Int.reduceLE, Int.reduceEq, reduceCtorEq, ↓reduceIte], fun _ _ _ _ _ _ => by simp -implicitDefEqProofs only [go_sem, Nat.reduceLT, Nat.reduceAdd, Nat.reduceSub, Nat.reduceMul, Nat.reduceEqDiff, Nat.reduceBEq, Nat.reduceLeDiff, Int.reduceToNat, Int.reduceLT, Int.reduceLE, Int.reduceEq, reduceCtorEq, ↓reduceIte]⟩, fun y0 r h => ⟨fun S => by simp -implicitDefEqProofs only [go_sem, Nat.reduceLT, Nat.reduceAdd, Nat.reduceSub, Nat.reduceMul, Nat.reduceEqDiff, Nat.reduceBEq, Nat.reduceLeDiff, Int.reduceToNat, Int.reduceLT, Int.reduceLE, Int.reduceEq, reduceCtorEq, ↓reduceIte, e52 y0 r h], fun S => by simp -implicitDefEqProofs only [go_sem, Nat.reduceLT, Nat.reduceAdd, Nat.reduceSub, Nat.reduceMul, Nat.reduceEqDiff, Nat.reduceBEq, Nat.reduceLeDiff, Int.reduceToNat, Int.reduceLT, Int.reduceLE, Int.reduceEq, reduceCtorEq, ↓reduceIte, e52 y0 r h]⟩⟩ r16 q14
        try simp -implicitDefEqProofs only [go_sem, Nat.reduceLT, Nat.reduceAdd, Nat.reduceSub, Nat.reduceMul, Nat.reduceEqDiff, Nat.reduceBEq, Nat.reduceLeDiff, Int.reduceToNat, Int.reduceLT, Int.reduceLE, Int.reduceEq, reduceCtorEq, ↓reduceIte] at w15
        cases h
        simp -implicitDefEqProofs only [go_sem, Nat.reduceLT, Nat.reduceAdd, Nat.reduceSub, Nat.reduceMul, Nat.reduceEqDiff, Nat.reduceBEq, Nat.reduceLeDiff, Int.reduceToNat, Int.reduceLT, Int.reduceLE, Int.reduceEq, reduceCtorEq, ↓reduceIte, X33_1, k33_1, b11, b12, b13, w15]
      · replace h := br_t b13 h
        cases h
        simp -implicitDefEqProofs only [go_sem, Nat.reduceLT, Nat.reduceAdd, Nat.reduceSub, Nat.reduceMul, Nat.reduceEqDiff, Nat.reduceBEq, Nat.reduceLeDiff, Int.reduceToNat, Int.reduceLT, Int.reduceLE, Int.reduceEq, reduceCtorEq, ↓reduceIte, X33_1, k33_1, b11, b12, b13]
def X33_2 (a2 : (List Int)) (p21 : Session) (p22 : Session) (a0 : Int) (a1 : Int) (p23 : List Int) (o : (Session × List Int × Session × List Int)) : Ex × Fr × St :=
  (.exit 0, frOf 107 (upd (upd (upd (upd (upd anyF 2 (.ts .imm 1 (a2.map encInt))) 6 (.ptr 0 0 0)) 7 (.ptr 1 0 0)) 13 (.ptr 2 0 0)) 14 (.ptr 4 0 0)), [some ⟨.box, 5, [[.int .i64 p21.state, .int .i64 p21.hold, .int .i64 p21.left, .int .i64 p21.quiet, .int .i64 p21.ups]]⟩, some ⟨.box, 5, [[.int .i64 p22.state, .int .i64 p22.hold, .int .i64 p22.left, .int .i64 p22.quiet, .int .i64 p22.ups]]⟩, some ⟨.box, 7, [[.int .i64 o.1.state, .int .i64 o.1.hold, .int .i64 o.1.left, .int .i64 o.1.quiet, .int .i64 o.1.ups, .int .i64 a0, .sl 3 0 o.2.1.length]]⟩, some ⟨.arr, 1, o.2.1.map encInt⟩, some ⟨.box, 7, [[.int .i64 o.2.2.1.state, .int .i64 o.2.2.1.hold, .int .i64 o.2.2.1.left, .int .i64 o.2.2.1.quiet, .int .i64 o.2.2.1.ups, .int .i64 a1, .sl 5 0 o.2.2.2.length]]⟩, some ⟨.arr, 1, o.2.2.2.map encInt⟩])
def E33_2 (a2 : (List Int)) (p21 : Session) (p22 : Session) (a0 : Int) (a1 : Int) (p23 : List Int) (s : (Int × Session × List Int × Session × List Int)) : Fr × St := (frOf 107 (upd (upd (upd (upd (upd (upd (upd (upd anyF 2 (.ts .imm 1 (a2.map encInt))) 6 (.ptr 0 0 0)) 7 (.ptr 1 0 0)) 13 (.ptr 2 0 0)) 14 (.ptr 4 0 0)) 54 (.sl 6 0 p23.length)) 55 (.int .i64 2)) 56 (.int .i64 s.1)), [some ⟨.box, 5, [[.int .i64 p21.state, .int .i64 p21.hold, .int .i64 p21.left, .int .i64 p21.quiet, .int .i64 p21.ups]]⟩, some ⟨.box, 5, [[.int .i64 p22.state, .int .i64 p22.hold, .int .i64 p22.left, .int .i64 p22.quiet, .int .i64 p22.ups]]⟩, some ⟨.box, 7, [[.int .i64 s.2.1.state, .int .i64 s.2.1.hold, .int .i64 s.2.1.left, .int .i64 s.2.1.quiet, .int .i64 s.2.1.ups, .int .i64 a0, .sl 3 0 s.2.2.1.length]]⟩, some ⟨.arr, 1, s.2.2.1.map encInt⟩, some ⟨.box, 7, [[.int .i64 s.2.2.2.1.state, .int .i64 s.2.2.2.1.hold, .int .i64 s.2.2.2.1.left, .int .i64 s.2.2.2.1.quiet, .int .i64 s.2.2.2.1.ups, .int .i64 a1, .sl 5 0 s.2.2.2.2.length]]⟩, some ⟨.arr, 1, s.2.2.2.2.map encInt⟩, some ⟨.arr, 1, p23.map encInt⟩])
theorem b33_2 (a2 : (List Int)) (p21 : Session) (p22 : Session) (a0 : Int) (a1 : Int) (p23 : List Int) (s : (Int × Session × List Int × Session × List Int)) (o : Ctl (Int × Session × List Int × Session × List Int) (Session × List Int × Session × List Int)) (h : m33_2b a0 a1 p23 s = some o) : evCL T 0 k33_2b (E33_2 a2 p21 p22 a0 a1 p23 s).1 (E33_2 a2 p21 p22 a0 a1 p23 s).2 = some (ctlX (E33_2 a2 p21 p22 a0 a1 p23) (X33_2 a2 p21 p22 a0 a1 p23) o) := by
  unfold m33_2b at h
  obtain ⟨s38, s39, s40, s41, s42⟩ := s
  replace h := sel5_some h
  try simp -implicitDefEqProofs only [go_sem, Nat.reduceLT, Nat.reduceAdd, Nat.reduceSub, Nat.reduceMul, Nat.reduceEqDiff, Nat.reduceBEq, Nat.reduceLeDiff, Int.reduceToNat, Int.reduceLT, Int.reduceLE, Int.reduceEq, reduceCtorEq, ↓reduceIte, E33_2, X33_2, k33_2b]
  cases b43 : (ltI s38 2 : Bool)
  · replace h := br_f b43 h
    cases h
    simp -implicitDefEqProofs only [go_sem, Nat.reduceLT, Nat.reduceAdd, Nat.reduceSub, Nat.reduceMul, Nat.reduceEqDiff, Nat.reduceBEq, Nat.reduceLeDiff, Int.reduceToNat, Int.reduceLT, Int.reduceLE, Int.reduceEq, reduceCtorEq, ↓reduceIte, E33_2, X33_2, k33_2b, b43]
  · replace h := br_t b43 h
    obtain ⟨x44, q45, h⟩ := bnd_some h
    obtain ⟨g46, g47, g48⟩ := idx_row encInt q45
    try simp -implicitDefEqProofs only [go_sem, Nat.reduceLT, Nat.reduceAdd, Nat.reduceSub, Nat.reduceMul, Nat.reduceEqDiff, Nat.reduceBEq, Nat.reduceLeDiff, Int.reduceToNat, Int.reduceLT, Int.reduceLE, Int.reduceEq, reduceCtorEq, ↓reduceIte] at g47
    try simp -implicitDefEqProofs only [go_sem, Nat.reduceLT, Nat.reduceAdd, Nat.reduceSub, Nat.reduceMul, Nat.reduceEqDiff, Nat.reduceBEq, Nat.reduceLeDiff, Int.reduceToNat, Int.reduceLT, Int.reduceLE, Int.reduceEq, reduceCtorEq, ↓reduceIte] at g48
    obtain ⟨⟨r51, r52⟩, q49, h⟩ := bnd_some h
    replace h := sel2_some h
    have w50 := e53 (⟨s39, a0, s40⟩ : side) (⟨s41, a1, s42⟩ : side) (⟨x44, 0⟩ : Evt) (r51, r52) q49
    try simp -implicitDefEqProofs only [go_sem, Nat.reduceLT, Nat.reduceAdd, Nat.reduceSub, Nat.reduceMul, Nat.reduceEqDiff, Nat.reduceBEq, Nat.reduceLeDiff, Int.reduceToNat, Int.reduceLT, Int.reduceLE, Int.reduceEq, reduceCtorEq, ↓reduceIte] at w50
    obtain ⟨⟨r55, r56⟩, q53, h⟩ := bnd_some h
    replace h := sel2_some h
    have w54 := e53 (⟨s41, a1, r52⟩ : side) (⟨r51, a0, s40⟩ : side) (⟨x44, 0⟩ : Evt) (r55, r56) q53
    try simp -implicitDefEqProofs only [go_sem, Nat.reduceLT, Nat.reduceAdd, Nat.reduceSub, Nat.reduceMul, Nat.reduceEqDiff, Nat.reduceBEq, Nat.reduceLeDiff, Int.reduceToNat, Int.reduceLT, Int.reduceLE, Int.reduceEq, reduceCtorEq, ↓reduceIte] at w54
    cases h
    simp -implicitDefEqProofs only [go_sem, Nat.reduceLT, Nat.reduceAdd, Nat.reduceSub, Nat.reduceMul, Nat.reduceEqDiff, Nat.reduceBEq, Nat.reduceLeDiff, Int.reduceToNat, Int.reduceLT, Int.reduceLE, Int.reduceEq, reduceCtorEq, ↓reduceIte, E33_2, X33_2, k33_2b, b43, g46, g47, g48, w50, w54]
theorem e33_2 (a2 : (List Int)) (p21 : Session) (p22 : Session) (a0 : Int) (a1 : Int) (p23 : List Int) (s : (Int × Session × List Int × Session × List Int)) (o : (Session × List Int × Session × List Int)) (h : loopP (m33_2b a0 a1 p23) s = some o) : evCL T 0 (.loop k33_2b) (E33_2 a2 p21 p22 a0 a1 p23 s).1 (E33_2 a2 p21 p22 a0 a1 p23 s).2 = some (X33_2 a2 p21 p22 a0 a1 p23 o) :=
  loop_walk (E := E33_2 a2 p21 p22 a0 a1 p23) (X := X33_2 a2 p21 p22 a0 a1 p23) (by intro b; (simp only [X33_2]; nofun)) (b33_2 a2 p21 p22 a0 a1 p23) s o h
def X33_9 (a2 : (List Int)) (p63 : Int) (s113 : Int) (p141 : Bool) (p64 : Session) (p65 : Session) (s114 : Session) (a0 : Int) (s115 : List Int) (s116 : Session) (a1 : Int) (s117 : List Int) (o : (List Int × Session × List Int)) : Ex × Fr × St :=
  (.normal, frOf 107 (upd (upd (upd (upd (upd (upd (upd anyF 6 (.ptr 0 0 0)) 7 (.ptr 1 0 0)) 13 (.ptr 2 0 0)) 14 (.ptr 4 0 0)) 71 (.ts .imm 1 (a2.map encInt))) 72 (.int .i64 p63)) 73 (.int .i64 s113)), [some ⟨.box, 5, [[.int .i64 p64.state, .int .i64 p64.hold, .int .i64 p64.left, .int .i64 p64.quiet, .int .i64 p64.ups]]⟩, some ⟨.box, 5, [[.int .i64 p65.state, .int .i64 p65.hold, .int .i64 p65.left, .int .i64 p65.quiet, .int .i64 p65.ups]]⟩, some ⟨.box, 7, [[.int .i64 s114.state, .int .i64 s114.hold, .int .i64 s114.left, .int .i64 s114.quiet, .int .i64 s114.ups, .int .i64 a0, .sl 3 0 o.1.length]]⟩, some ⟨.arr, 1, o.1.map encInt⟩, some ⟨.box, 7, [[.int .i64 o.2.1.state, .int .i64 o.2.1.hold, .int .i64 o.2.1.left, .int .i64 o.2.1.quiet, .int .i64 o.2.1.ups, .int .i64 a1, .sl 5 0 o.2.2.length]]⟩, some ⟨.arr, 1, o.2.2.map encInt⟩])
theorem e33_9 (a2 : (List Int)) (p63 : Int) (s113 : Int) (p141 : Bool) (p64 : Session) (p65 : Session) (s114 : Session) (a0 : Int) (s115 : List Int) (s116 : Session) (a1 : Int) (s117 : List Int) (o : (List Int × Session × List Int)) (h : m33_9 p141 s114 a0 s115 s116 a1 s117 = some o) : evCL T 0 k33_9 (frOf 107 (upd (upd (upd (upd (upd (upd (upd (upd anyF 6 (.ptr 0 0 0)) 7 (.ptr 1 0 0)) 13 (.ptr 2 0 0)) 14 (.ptr 4 0 0)) 71 (.ts .imm 1 (a2.map encInt))) 72 (.int .i64 p63)) 73 (.int .i64 s113)) 93 (.bool p141))) [some ⟨.box, 5, [[.int .i64 p64.state, .int .i64 p64.hold, .int .i64 p64.left, .int .i64 p64.quiet, .int .i64 p64.ups]]⟩, some ⟨.box, 5, [[.int .i64 p65.state, .int .i64 p65.hold, .int .i64 p65.left, .int .i64 p65.quiet, .int .i64 p65.ups]]⟩, some ⟨.box, 7, [[.int .i64 s114.state, .int .i64 s114.hold, .int .i64 s114.left, .int .i64 s114.quiet, .int .i64 s114.ups, .int .i64 a0, .sl 3 0 s115.length]]⟩, some ⟨.arr, 1, s115.map encInt⟩, some ⟨.box, 7, [[.int .i64 s116.state, .int .i64 s116.hold, .int .i64 s116.left, .int .i64 s116.quiet, .int .i64 s116.ups, .int .i64 a1, .sl 5 0 s117.length]]⟩, some ⟨.arr, 1, s117.map encInt⟩] = some (X33_9 a2 p63 s113 p141 p64 p65 s114 a0 s115 s116 a1 s117 o) := by
  unfold m33_9 at h
  try simp -implicitDefEqProofs only [go_sem, Nat.reduceLT, Nat.reduceAdd, Nat.reduceSub, Nat.reduceMul, Nat.reduceEqDiff, Nat.reduceBEq, Nat.reduceLeDiff, Int.reduceToNat, Int.reduceLT, Int.reduceLE, Int.reduceEq, reduceCtorEq, ↓reduceIte, X33_9, k33_9]
  cases b142 : (p141 : Bool)
  · replace h := br_f b142 h
    cases h
    simp -implicitDefEqProofs only [go_sem, Nat.reduceLT, Nat.reduceAdd, Nat.reduceSub, Nat.reduceMul, Nat.reduceEqDiff, Nat.reduceBEq, Nat.reduceLeDiff, Int.reduceToNat, Int.reduceLT, Int.reduceLE, Int.reduceEq, reduceCtorEq, ↓reduceIte, X33_9, k33_9, b142]
  · replace h := br_t b142 h
    obtain ⟨⟨r145, r146, r147⟩, q143, h⟩ := bnd_some h
    replace h := sel3_some h
    have w144 := e54 (⟨s116, a1, s117⟩ : side) (⟨s114, a0, s115⟩ : side) (r145, r146, r147) q143
    try simp -implicitDefEqProofs only [go_sem, Nat.reduceLT, Nat.reduceAdd, Nat.reduceSub, Nat.reduceMul, Nat.reduceEqDiff, Nat.reduceBEq, Nat.reduceLeDiff, Int.reduceToNat, Int.reduceLT, Int.reduceLE, Int.reduceEq, reduceCtorEq, ↓reduceIte] at w144
    cases h
    simp -implicitDefEqProofs only [go_sem, Nat.reduceLT, Nat.reduceAdd, Nat.reduceSub, Nat.reduceMul, Nat.reduceEqDiff, Nat.reduceBEq, Nat.reduceLeDiff, Int.reduceToNat, Int.reduceLT, Int.reduceLE, Int.reduceEq, reduceCtorEq, ↓reduceIte, X33_9, k33_9, b142, w144]
def X33_8 (a2 : (List Int)) (p63 : Int) (s113 : Int) (x119 : Int) (p134 : Bool) (p64 : Session) (p65 : Session) (s114 : Session) (a0 : Int) (s115 : List Int) (s116 : Session) (a1 : Int) (s117 : List Int) (o : (Session × List Int × Session × List Int)) : Ex × Fr × St :=
  (.normal, frOf 107 (upd (upd (upd (upd (upd (upd (upd anyF 6 (.ptr 0 0 0)) 7 (.ptr 1 0 0)) 13 (.ptr 2 0 0)) 14 (.ptr 4 0 0)) 71 (.ts .imm 1 (a2.map encInt))) 72 (.int .i64 p63)) 73 (.int .i64 s113)), [some ⟨.box, 5, [[.int .i64 p64.state, .int .i64 p64.hold, .int .i64 p64.left, .int .i64 p64.quiet, .int .i64 p64.ups]]⟩, some ⟨.box, 5, [[.int .i64 p65.state, .int .i64 p65.hold, .int .i64 p65.left, .int .i64 p65.quiet, .int .i64 p65.ups]]⟩, some ⟨.box, 7, [[.int .i64 o.1.state, .int .i64 o.1.hold, .int .i64 o.1.left, .int .i64 o.1.quiet, .int .i64 o.1.ups, .int .i64 a0, .sl 3 0 o.2.1.length]]⟩, some ⟨.arr, 1, o.2.1.map encInt⟩, some ⟨.box, 7, [[.int .i64 o.2.2.1.state, .int .i64 o.2.2.1.hold, .int .i64 o.2.2.1.left, .int .i64 o.2.2.1.quiet, .int .i64 o.2.2.1.ups, .int .i64 a1, .sl 5 0 o.2.2.2.length]]⟩, some ⟨.arr, 1, o.2.2.2.map encInt⟩])
theorem e33_8 (a2 : (List Int)) (p63 : Int) (s113 : Int) (x119 : Int) (p134 : Bool) (p64 : Session) (p65 : Session) (s114 : Session) (a0 : Int) (s115 : List Int) (s116 : Session) (a1 : Int) (s117 : List Int) (o : (Session × List Int × Session × List Int)) (h : m33_8 x119 p134 s114 a0 s115 s116 a1 s117 = some o) : evCL T 0 k33_8 (frOf 107 (upd (upd (upd (upd (upd (upd (upd (upd (upd anyF 6 (.ptr 0 0 0)) 7 (.ptr 1 0 0)) 13 (.ptr 2 0 0)) 14 (.ptr 4 0 0)) 71 (.ts .imm 1 (a2.map encInt))) 72 (.int .i64 p63)) 73 (.int .i64 s113)) 77 (.int .i64 x119)) 88 (.bool p134))) [some ⟨.box, 5, [[.int .i64 p64.state, .int .i64 p64.hold, .int .i64 p64.left, .int .i64 p64.quiet, .int .i64 p64.ups]]⟩, some ⟨.box, 5, [[.int .i64 p65.state, .int .i64 p65.hold, .int .i64 p65.left, .int .i64 p65.quiet, .int .i64 p65.ups]]⟩, some ⟨.box, 7, [[.int .i64 s114.state, .int .i64 s114.hold, .int .i64 s114.left, .int .i64 s114.quiet, .int .i64 s114.ups, .int .i64 a0, .sl 3 0 s115.length]]⟩, some ⟨.arr, 1, s115.map encInt⟩, some ⟨.box, 7, [[.int .i64 s116.state, .int .i64 s116.hold, .int .i64 s116.left, .int .i64 s116.quiet, .int .i64 s116.ups, .int .i64 a1, .sl 5 0 s117.length]]⟩, some ⟨.arr, 1, s117.map encInt⟩] = some (X33_8 a2 p63 s113 x119 p134 p64 p65 s114 a0 s115 s116 a1 s117 o) := by
  unfold m33_8 at h
  try simp -implicitDefEqProofs only [go_sem, Nat.reduceLT, Nat.reduceAdd, Nat.reduceSub, Nat.reduceMul, Nat.reduceEqDiff, Nat.reduceBEq, Nat.reduceLeDiff, Int.reduceToNat, Int.reduceLT, Int.reduceLE, Int.reduceEq, reduceCtorEq, ↓reduceIte, X33_8, k33_8]
  cases b135 : (p134 : Bool)
  · replace h := br_f b135 h
    obtain ⟨⟨v150, v151, v152⟩, q148, h⟩ := bnd_some h
    replace h := sel3_some h
    have w149 := e33_9 a2 p63 s113 (eqI x119 2) p64 p65 s114 a0 s115 s116 a1 s117 (v150, v151, v152) q148
    simp only [X33_9] at w149
    try simp -implicitDefEqProofs only [go_sem, Nat.reduceLT, Nat.reduceAdd, Nat.reduceSub, Nat.reduceMul, Nat.reduceEqDiff, Nat.reduceBEq, Nat.reduceLeDiff, Int.reduceToNat, Int.reduceLT, Int.reduceLE, Int.reduceEq, reduceCtorEq, ↓reduceIte] at w149
    cases h
    simp -implicitDefEqProofs only [go_sem, Nat.reduceLT, Nat.reduceAdd, Nat.reduceSub, Nat.reduceMul, Nat.reduceEqDiff, Nat.reduceBEq, Nat.reduceLeDiff, Int.reduceToNat, Int.reduceLT, Int.reduceLE, Int.reduceEq, reduceCtorEq, ↓reduceIte, X33_8, k33_8, b135, w149]
  · replace h := br_t b135 h
    obtain ⟨⟨r138, r139, r140⟩, q136, h⟩ := bnd_some h
    replace h := sel3_some h
    have w137 := e54 (⟨s114, a0, s115⟩ : side) (⟨s116, a1, s117⟩ : side) (r138, r139, r140) q136
    try simp -implicitDefEqProofs only [go_sem, Nat.reduceLT, Nat.reduceAdd, Nat.reduceSub, Nat.reduceMul, Nat.reduceEqDiff, Nat.reduceBEq, Nat.reduceLeDiff, Int.reduceToNat, Int.reduceLT, Int.reduceLE, Int.reduceEq, reduceCtorEq, ↓reduceIte] at w137
    cases h
    simp -implicitDefEqProofs only [go_sem, Nat.reduceLT, Nat.reduceAdd, Nat.reduceSub, Nat.reduceMul, Nat.reduceEqDiff, Nat.reduceBEq, Nat.reduceLeDiff, Int.reduceToNat, Int.reduceLT, Int.reduceLE, Int.reduceEq, reduceCtorEq, ↓reduceIte, X33_8, k33_8, b135, w137]
def X33_7 (a2 : (List Int)) (p63 : Int) (s113 : Int) (x119 : Int) (p124 : Bool) (p64 : Session) (p65 : Session) (s114 : Session) (a0 : Int) (s115 : List Int) (s116 : Session) (a1 : Int) (s117 : List Int) (o : (Session × List Int × Session × List Int)) : Ex × Fr × St :=
  (.normal, frOf 107 (upd (upd (upd (upd (upd (upd (upd anyF 6 (.ptr 0 0 0)) 7 (.ptr 1 0 0)) 13 (.ptr 2 0 0)) 14 (.ptr 4 0 0)) 71 (.ts .imm 1 (a2.map encInt))) 72 (.int .i64 p63)) 73 (.int .i64 s113)), [some ⟨.box, 5, [[.int .i64 p64.state, .int .i64 p64.hold, .int .i64 p64.left, .int .i64 p64.quiet, .int .i64 p64.ups]]⟩, some ⟨.box, 5, [[.int .i64 p65.state, .int .i64 p65.hold, .int .i64 p65.left, .int .i64 p65.quiet, .int .i64 p65.ups]]⟩, some ⟨.box, 7, [[.int .i64 o.1.state, .int .i64 o.1.hold, .int .i64 o.1.left, .int .i64 o.1.quiet, .int .i64 o.1.ups, .int .i64 a0, .sl 3 0 o.2.1.length]]⟩, some ⟨.arr, 1, o.2.1.map encInt⟩, some ⟨.box, 7, [[.int .i64 o.2.2.1.state, .int .i64 o.2.2.1.hold, .int .i64 o.2.2.1.left, .int .i64 o.2.2.1.quiet, .int .i64 o.2.2.1.ups, .int .i64 a1, .sl 5 0 o.2.2.2.length]]⟩, some ⟨.arr, 1, o.2.2.2.map encInt⟩])
theorem e33_7 (a2 : (List Int)) (p63 : Int) (s113 : Int) (x119 : Int) (p124 : Bool) (p64 : Session) (p65 : Session) (s114 : Session) (a0 : Int) (s115 : List Int) (s116 : Session) (a1 : Int) (s117 : List Int) (o : (Session × List Int × Session × List Int)) (h : m33_7 x119 p124 s114 a0 s115 s116 a1 s117 = some o) : evCL T 0 k33_7 (frOf 107 (upd (upd (upd (upd (upd (upd (upd (upd (upd anyF 6 (.ptr 0 0 0)) 7 (.ptr 1 0 0)) 13 (.ptr 2 0 0)) 14 (.ptr 4 0 0)) 71 (.ts .imm 1 (a2.map encInt))) 72 (.int .i64 p63)) 73 (.int .i64 s113)) 77 (.int .i64 x119)) 78 (.bool p124))) [some ⟨.box, 5, [[.int .i64 p64.state, .int .i64 p64.hold, .int .i64 p64.left, .int .i64 p64.quiet, .int .i64 p64.ups]]⟩, some ⟨.box, 5, [[.int .i64 p65.state, .int .i64 p65.hold, .int .i64 p65.left, .int .i64 p65.quiet, .int .i64 p65.ups]]⟩, some ⟨.box, 7, [[.int .i64 s114.state, .int .i64 s114.hold, .int .i64 s114.left, .int .i64 s114.quiet, .int .i64 s114.ups, .int .i64 a0, .sl 3 0 s115.length]]⟩, some ⟨.arr, 1, s115.map encInt⟩, some ⟨.box, 7, [[.int .i64 s116.state, .int .i64 s116.hold, .int .i64 s116.left, .int .i64 s116.quiet, .int .i64 s116.ups, .int .i64 a1, .sl 5 0 s117.length]]⟩, some ⟨.arr, 1, s117.map encInt⟩] = some (X33_7 a2 p63 s113 x119 p124 p64 p65 s114 a0 s115 s116 a1 s117 o) := by
  unfold m33_7 at h
  try simp -implicitDefEqProofs only [go_sem, Nat.reduceLT, Nat.reduceAdd, Nat.reduceSub, Nat.reduceMul, Nat.reduceEqDiff, Nat.reduceBEq, Nat.reduceLeDiff, Int.reduceToNat, Int.reduceLT, Int.reduceLE, Int.reduceEq, reduceCtorEq, ↓reduceIte, X33_7, k33_7]
  cases b125 : (p124 : Bool)
  · replace h := br_f b125 h
    obtain ⟨⟨v155, v156, v157, v158⟩, q153, h⟩ := bnd_some h
    replace h := sel4_some h
    have w154 := e33_8 a2 p63 s113 x119 (eqI x119 1) p64 p65 s114 a0 s115 s116 a1 s117 (v155, v156, v157, v158) q153
    simp only [X33_8] at w154
    try simp -implicitDefEqProofs only [go_sem, Nat.reduceLT, Nat.reduceAdd, Nat.reduceSub, Nat.reduceMul, Nat.reduceEqDiff, Nat.reduceBEq, Nat.reduceLeDiff, Int.reduceToNat, Int.reduceLT, Int.reduceLE, Int.reduceEq, reduceCtorEq, ↓reduceIte] at w154
    cases h
    simp -implicitDefEqProofs only [go_sem, Nat.reduceLT, Nat.reduceAdd, Nat.reduceSub, Nat.reduceMul, Nat.reduceEqDiff, Nat.reduceBEq, Nat.reduceLeDiff, Int.reduceToNat, Int.reduceLT, Int.reduceLE, Int.reduceEq, reduceCtorEq, ↓reduceIte, X33_7, k33_7, b125, w154]
  · replace h := br_t b125 h
    obtain ⟨⟨r128, r129⟩, q126, h⟩ := bnd_some h
    replace h := sel2_some h
    have w127 := e53 (⟨s114, a0, s115⟩ : side) (⟨s116, a1, s117⟩ : side) (⟨10, 0⟩ : Evt) (r128, r129) q126
    try simp -implicitDefEqProofs only [go_sem, Nat.reduceLT, Nat.reduceAdd, Nat.reduceSub, Nat.reduceMul, Nat.reduceEqDiff, Nat.reduceBEq, Nat.reduceLeDiff, Int.reduceToNat, Int.reduceLT, Int.reduceLE, Int.reduceEq, reduceCtorEq, ↓reduceIte] at w127
    obtain ⟨⟨r132, r133⟩, q130, h⟩ := bnd_some h
    replace h := sel2_some h
    have w131 := e53 (⟨s116, a1, r129⟩ : side) (⟨r128, a0, s115⟩ : side) (⟨10, 0⟩ : Evt) (r132, r133) q130
    try simp -implicitDefEqProofs only [go_sem, Nat.reduceLT, Nat.reduceAdd, Nat.reduceSub, Nat.reduceMul, Nat.reduceEqDiff, Nat.reduceBEq, Nat.reduceLeDiff, Int.reduceToNat, Int.reduceLT, Int.reduceLE, Int.reduceEq, reduceCtorEq, ↓reduceIte] at w131
    cases h
    simp -implicitDefEqProofs only [go_sem, Nat.reduceLT, Nat.reduceAdd, Nat.reduceSub, Nat.reduceMul, Nat.reduceEqDiff, Nat.reduceBEq, Nat.reduceLeDiff, Int.reduceToNat, Int.reduceLT, Int.reduceLE, Int.reduceEq, reduceCtorEq, ↓reduceIte, X33_7, k33_7, b125, w127, w131]
def X33_3 (a2 : (List Int)) (p63 : Int) (p64 : Session) (p65 : Session) (a0 : Int) (a1 : Int) (o : (Session × List Int × Session × List Int)) : Ex × Fr × St :=
  (.exit 2, frOf 107 (upd (upd (upd (upd anyF 6 (.ptr 0 0 0)) 7 (.ptr 1 0 0)) 13 (.ptr 2 0 0)) 14 (.ptr 4 0 0)), [some ⟨.box, 5, [[.int .i64 p64.state, .int .i64 p64.hold, .int .i64 p64.left, .int .i64 p64.quiet, .int .i64 p64.ups]]⟩, some ⟨.box, 5, [[.int .i64 p65.state, .int .i64 p65.hold, .int .i64 p65.left, .int .i64 p65.quiet, .int .i64 p65.ups]]⟩, some ⟨.box, 7, [[.int .i64 o.1.state, .int .i64 o.1.hold, .int .i64 o.1.left, .int .i64 o.1.quiet, .int .i64 o.1.ups, .int .i64 a0, .sl 3 0 o.2.1.length]]⟩, some ⟨.arr, 1, o.2.1.map encInt⟩, some ⟨.box, 7, [[.int .i64 o.2.2.1.state, .int .i64 o.2.2.1.hold, .int .i64 o.2.2.1.left, .int .i64 o.2.2.1.quiet, .int .i64 o.2.2.1.ups, .int .i64 a1, .sl 5 0 o.2.2.2.length]]⟩, some ⟨.arr, 1, o.2.2.2.map encInt⟩])
def E33_3 (a2 : (List Int)) (p63 : Int) (p64 : Session) (p65 : Session) (a0 : Int) (a1 : Int) (s : (Int × Session × List Int × Session × List Int)) : Fr × St := (frOf 107 (upd (upd (upd (upd (upd (upd (upd anyF 6 (.ptr 0 0 0)) 7 (.ptr 1 0 0)) 13 (.ptr 2 0 0)) 14 (.ptr 4 0 0)) 71 (.ts .imm 1 (a2.map encInt))) 72 (.int .i64 p63)) 73 (.int .i64 s.1)), [some ⟨.box, 5, [[.int .i64 p64.state, .int .i64 p64.hold, .int .i64 p64.left, .int .i64 p64.quiet, .int .i64 p64.ups]]⟩, some ⟨.box, 5, [[.int .i64 p65.state, .int .i64 p65.hold, .int .i64 p65.left, .int .i64 p65.quiet, .int .i64 p65.ups]]⟩, some ⟨.box, 7, [[.int .i64 s.2.1.state, .int .i64 s.2.1.hold, .int .i64 s.2.1.left, .int .i64 s.2.1.quiet, .int .i64 s.2.1.ups, .int .i64 a0, .sl 3 0 s.2.2.1.length]]⟩, some ⟨.arr, 1, s.2.2.1.map encInt⟩, some ⟨.box, 7, [[.int .i64 s.2.2.2.1.state, .int .i64 s.2.2.2.1.hold, .int .i64 s.2.2.2.1.left, .int .i64 s.2.2.2.1.quiet, .int .i64 s.2.2.2.1.ups, .int .i64 a1, .sl 5 0 s.2.2.2.2.length]]⟩, some ⟨.arr, 1, s.2.2.2.2.map encInt⟩])
theorem b33_3 (a2 : (List Int)) (p63 : Int) (p64 : Session) (p65 : Session) (a0 : Int) (a1 : Int) (s : (Int × Session × List Int × Session × List Int)) (o : Ctl (Int × Session × List Int × Session × List Int) (Session × List Int × Session × List Int)) (h : m33_3b a2 p63 a0 a1 s = some o) : evCL T 0 k33_3b (E33_3 a2 p63 p64 p65 a0 a1 s).1 (E33_3 a2 p63 p64 p65 a0 a1 s).2 = some (ctlX (E33_3 a2 p63 p64 p65 a0 a1) (X33_3 a2 p63 p64 p65 a0 a1) o) := by
  unfold m33_3b at h
  obtain ⟨s113, s114, s115, s116, s117⟩ := s
  replace h := sel5_some h
  try simp -implicitDefEqProofs only [go_sem, Nat.reduceLT, Nat.reduceAdd, Nat.reduceSub, Nat.reduceMul, Nat.reduceEqDiff, Nat.reduceBEq, Nat.reduceLeDiff, Int.reduceToNat, Int.reduceLT, Int.reduceLE, Int.reduceEq, reduceCtorEq, ↓reduceIte, E33_3, X33_3, k33_3b]
  cases b118 : (ltI s113 p63 : Bool)
  · replace h := br_f b118 h
    cases h
    simp -implicitDefEqProofs only [go_sem, Nat.reduceLT, Nat.reduceAdd, Nat.reduceSub, Nat.reduceMul, Nat.reduceEqDiff, Nat.reduceBEq, Nat.reduceLeDiff, Int.reduceToNat, Int.reduceLT, Int.reduceLE, Int.reduceEq, reduceCtorEq, ↓reduceIte, E33_3, X33_3, k33_3b, b118]
  · replace h := br_t b118 h
    obtain ⟨x119, q120, h⟩ := bnd_some h
    obtain ⟨g121, g122, g123⟩ := idx_row encInt q120
    try simp -implicitDefEqProofs only [go_sem, Nat.reduceLT, Nat.reduceAdd, Nat.reduceSub, Nat.reduceMul, Nat.reduceEqDiff, Nat.reduceBEq, Nat.reduceLeDiff, Int.reduceToNat, Int.reduceLT, Int.reduceLE, Int.reduceEq, reduceCtorEq, ↓reduceIte] at g122
    try simp -implicitDefEqProofs only [go_sem, Nat.reduceLT, Nat.reduceAdd, Nat.reduceSub, Nat.reduceMul, Nat.reduceEqDiff, Nat.reduceBEq, Nat.reduceLeDiff, Int.reduceToNat, Int.reduceLT, Int.reduceLE, Int.reduceEq, reduceCtorEq, ↓reduceIte] at g123
    obtain ⟨⟨v161, v162, v163, v164⟩, q159, h⟩ := bnd_some h
    replace h := sel4_some h
    have w160 := e33_7 a2 p63 s113 x119 (eqI x119 0) p64 p65 s114 a0 s115 s116 a1 s117 (v161, v162, v163, v164) q159
    simp only [X33_7] at w160
    try simp -implicitDefEqProofs only [go_sem, Nat.reduceLT, Nat.reduceAdd, Nat.reduceSub, Nat.reduceMul, Nat.reduceEqDiff, Nat.reduceBEq, Nat.reduceLeDiff, Int.reduceToNat, Int.reduceLT, Int.reduceLE, Int.reduceEq, reduceCtorEq, ↓reduceIte] at w160
    cases h
    simp -implicitDefEqProofs only [go_sem, Nat.reduceLT, Nat.reduceAdd, Nat.reduceSub, Nat.reduceMul, Nat.reduceEqDiff, Nat.reduceBEq, Nat.reduceLeDiff, Int.reduceToNat, Int.reduceLT, Int.reduceLE, Int.reduceEq, reduceCtorEq, ↓reduceIte, E33_3, X33_3, k33_3b, b118, g121, g122, g123, w160]
theorem e33_3 (a2 : (List Int)) (p63 : Int) (p64 : Session) (p65 : Session) (a0 : Int) (a1 : Int) (s : (Int × Session × List Int × Session × List Int)) (o : (Session × List Int × Session × List Int)) (h : loopP (m33_3b a2 p63 a0 a1) s = some o) : evCL T 0 (.loop k33_3b) (E33_3 a2 p63 p64 p65 a0 a1 s).1 (E33_3 a2 p63 p64 p65 a0 a1 s).2 = some (X33_3 a2 p63 p64 p65 a0 a1 o) :=
  loop_walk (E := E33_3 a2 p63 p64 p65 a0 a1) (X := X33_3 a2 p63 p64 p65 a0 a1) (by intro b; (simp only [X33_3]; nofun)) (b33_3 a2 p63 p64 p65 a0 a1) s o h
theorem call33 (args : List AV) (S : St) : evCall T (evFL T) 33 args S = lendC (evFL T 33) S (lendAll S [[0], [0], [1]] args) := evCall0 fn33 rfl rfl args S
theorem callz33 (args : List AV) (S : St) : evCallFz T (evFL T) 33 args S = lendZ (evFL T 33) S [[0, 0, 0, 0, 0], [0, 0, 0, 0, 0], [0]] (lendAll S [[0], [0], [1]] args) := evCallFz0 fn33 rfl rfl args S
attribute [go_sem] call33 callz33
theorem e33 (a0 : Int) (a1 : Int) (a2 : (List Int)) (r : (Session × Session × Bool)) (h : m33 a0 a1 a2 = some r) : evFL T 33 [.int .i64 a0, .int .i64 a1, .ts .imm 1 (a2.map encInt)] [] = some (.tup [.agg [.int .i64 r.1.state, .int .i64 r.1.hold, .int .i64 r.1.left, .int .i64 r.1.quiet, .int .i64 r.1.ups], .agg [.int .i64 r.2.1.state, .int .i64 r.2.1.hold, .int .i64 r.2.1.left, .int .i64 r.2.1.quiet, .int .i64 r.2.1.ups], .bool r.2.2], []) := by
  unfold m33 at h
  rw [evFL_at fn33 (Nat.le_of_ble_eq_true rfl) rfl (.inr rfl)]
  obtain ⟨⟨r3, r4⟩, q1, h⟩ := bnd_some h
  replace h := sel2_some h
  have w2 := e12 a0 (r3, r4) q1
  try simp -implicitDefEqProofs only [go_sem, Nat.reduceLT, Nat.reduceAdd, Nat.reduceSub, Nat.reduceMul, Nat.reduceEqDiff, Nat.reduceBEq, Nat.reduceLeDiff, Int.reduceToNat, Int.reduceLT, Int.reduceLE, Int.reduceEq, reduceCtorEq, ↓reduceIte] at w2
  obtain ⟨⟨r7, r8⟩, q5, h⟩ := bnd_some h
  replace h := sel2_some h
  have w6 := e12 a1 (r7, r8) q5
  try simp -implicitDefEqProofs only [go_sem, Nat.reduceLT, Nat.reduceAdd, Nat.reduceSub, Nat.reduceMul, Nat.reduceEqDiff, Nat.reduceBEq, Nat.reduceLeDiff, Int.reduceToNat, Int.reduceLT, Int.reduceLE, Int.reduceEq, reduceCtorEq, ↓reduceIte] at w6
  obtain ⟨v19, q17, h⟩ := bnd_some h
  have w18 := e33_1 a0 a1 a2 r4 r8 (⟨0, 0, 0, 0, 0⟩ : Session) (⟨0, 0, 0, 0, 0⟩ : Session) r3 r7 v19 q17
  simp only [X33_1] at w18
  try simp -implicitDefEqProofs only [go_sem, Nat.reduceLT, Nat.reduceAdd, Nat.reduceSub, Nat.reduceMul, Nat.reduceEqDiff, Nat.reduceBEq, Nat.reduceLeDiff, Int.reduceToNat, Int.reduceLT, Int.reduceLE, Int.reduceEq, reduceCtorEq, ↓reduceIte] at w18
  try simp -implicitDefEqProofs only [go_sem, Nat.reduceLT, Nat.reduceAdd, Nat.reduceSub, Nat.reduceMul, Nat.reduceEqDiff, Nat.reduceBEq, Nat.reduceLeDiff, Int.reduceToNat, Int.reduceLT, Int.reduceLE, Int.reduceEq, reduceCtorEq, ↓reduceIte, i33, c33, w2, w6, w18]
  cases b20 : (v19 : Bool)
  · replace h := br_f b20 h
    obtain ⟨⟨v59, v60, v61, v62⟩, q57, h⟩ := bnd_some h
    replace h := sel4_some h
    have w58 := e33_2 a2 (⟨0, 0, 0, 0, 0⟩ : Session) (⟨0, 0, 0, 0, 0⟩ : Session) a0 a1 [1, 3] (0, r3, [], r7, []) (v59, v60, v61, v62) q57
    simp only [E33_2, X33_2] at w58
    try simp -implicitDefEqProofs only [go_sem, Nat.reduceLT, Nat.reduceAdd, Nat.reduceSub, Nat.reduceMul, Nat.reduceEqDiff, Nat.reduceBEq, Nat.reduceLeDiff, Int.reduceToNat, Int.reduceLT, Int.reduceLE, Int.reduceEq, reduceCtorEq, ↓reduceIte] at w58
    obtain ⟨⟨v167, v168, v169, v170⟩, q165, h⟩ := bnd_some h
    replace h := sel4_some h
    have w166 := e33_3 a2 (↑a2.length : Int) (⟨0, 0, 0, 0, 0⟩ : Session) (⟨0, 0, 0, 0, 0⟩ : Session) a0 a1 (0, v59, v60, v61, v62) (v167, v168, v169, v170) q165
    simp only [E33_3, X33_3] at w166
    try simp -implicitDefEqProofs only [go_sem, Nat.reduceLT, Nat.reduceAdd, Nat.reduceSub, Nat.reduceMul, Nat.reduceEqDiff, Nat.reduceBEq, Nat.reduceLeDiff, Int.reduceToNat, Int.reduceLT, Int.reduceLE, Int.reduceEq, reduceCtorEq, ↓reduceIte] at w166
    cases h
    simp -implicitDefEqProofs only [go_sem, Nat.reduceLT, Nat.reduceAdd, Nat.reduceSub, Nat.reduceMul, Nat.reduceEqDiff, Nat.reduceBEq, Nat.reduceLeDiff, Int.reduceToNat, Int.reduceLT, Int.reduceLE, Int.reduceEq, reduceCtorEq, ↓reduceIte, i33, c33, w2, w6, w18, b20, w58, w166]
  · replace h := br_t b20 h
    cases h
    simp -implicitDefEqProofs only [go_sem, Nat.reduceLT, Nat.reduceAdd, Nat.reduceSub, Nat.reduceMul, Nat.reduceEqDiff, Nat.reduceBEq, Nat.reduceLeDiff, Int.reduceToNat, Int.reduceLT, Int.reduceLE, Int.reduceEq, reduceCtorEq, ↓reduceIte, i33, c33, w2, w6, w18, b20]
-- f39 spec.l1In
def X39_1 (a0 : Int) (a1 : Int) (a2 : Int) (o : Bool) : Ex × Fr × St :=
  (.normal, frOf 15 (upd anyF 6 (.bool o)), [])
theorem e39_1 (a0 : Int) (a1 : Int) (a2 : Int) (o : Bool) (h : m39_1 a0 a1 a2 = some o) : evCL T 0 k39_1 (frOf 15 (upd (upd (upd anyF 0 (.int .i64 a0)) 1 (.int .i64 a1)) 2 (.int .i64 a2))) [] = some (X39_1 a0 a1 a2 o) := by
  unfold m39_1 at h
  try simp -implicitDefEqProofs only [go_sem, Nat.reduceLT, Nat.reduceAdd, Nat.reduceSub, Nat.reduceMul, Nat.reduceEqDiff, Nat.reduceBEq, Nat.reduceLeDiff, Int.reduceToNat, Int.reduceLT, Int.reduceLE, Int.reduceEq, reduceCtorEq, ↓reduceIte, X39_1, k39_1]
  cases b1 : (leI a1 a0 : Bool)
  · replace h := br_f b1 h
    cases h
    simp -implicitDefEqProofs only [go_sem, Nat.reduceLT, Nat.reduceAdd, Nat.reduceSub, Nat.reduceMul, Nat.reduceEqDiff, Nat.reduceBEq, Nat.reduceLeDiff, Int.reduceToNat, Int.reduceLT, Int.reduceLE, Int.reduceEq, reduceCtorEq, ↓reduceIte, X39_1, k39_1, b1]
  · replace h := br_t b1 h
    cases h
    simp -implicitDefEqProofs only [go_sem, Nat.reduceLT, Nat.reduceAdd, Nat.reduceSub, Nat.reduceMul, Nat.reduceEqDiff, Nat.reduceBEq, Nat.reduceLeDiff, Int.reduceToNat, Int.reduceLT, Int.reduceLE, Int.reduceEq, reduceCtorEq, ↓reduceIte, X39_1, k39_1, b1]
theorem call39 (args : List AV) (S : St) : evCall T (evFL T) 39 args S = lendC (evFL T 39) S (lendAll S [[0], [0], [0]] args) := evCall0 fn39 rfl rfl args S
theorem callz39 (args : List AV) (S : St) : evCallFz T (evFL T) 39 args S = lendZ (evFL T 39) S [[0]] (lendAll S [[0], [0], [0]] args) := evCallFz0 fn39 rfl rfl args S
attribute [go_sem] call39 callz39
theorem e39 (a0 : Int) (a1 : Int) (a2 : Int) (r : Bool) (h : m39 a0 a1 a2 = some r) : evFL T 39 [.int .i64 a0, .int .i64 a1, .int .i64 a2] [] = some (.bool r, []) := by
  unfold m39 at h
  rw [evFL_at fn39 (Nat.le_of_ble_eq_true rfl) rfl (.inr rfl)]
  obtain ⟨v4, q2, h⟩ := bnd_some h
  have w3 := e39_1 a0 a1 a2 v4 q2
  simp only [X39_1] at w3
  try simp -implicitDefEqProofs only [go_sem, Nat.reduceLT, Nat.reduceAdd, Nat.reduceSub, Nat.reduceMul, Nat.reduceEqDiff, Nat.reduceBEq, Nat.reduceLeDiff, Int.reduceToNat, Int.reduceLT, Int.reduceLE, Int.reduceEq, reduceCtorEq, ↓reduceIte] at w3
  cases h
  simp -implicitDefEqProofs only [go_sem, Nat.reduceLT, Nat.reduceAdd, Nat.reduceSub, Nat.reduceMul, Nat.reduceEqDiff, Nat.reduceBEq, Nat.reduceLeDiff, Int.reduceToNat, Int.reduceLT, Int.reduceLE, Int.reduceEq, reduceCtorEq, ↓reduceIte, i39, c39, w3]
-- f11 spec.NewSession
theorem call11 (args : List AV) (S : St) : evCall T (evFL T) 11 args S = lendC (evFL T 11) S (lendAll S [[0]] args) := evCall0 fn11 rfl rfl args S
theorem callz11 (args : List AV) (S : St) : evCallFz T (evFL T) 11 args S = lendZ (evFL T 11) S [[0, 0, 0, 0, 0], [0]] (lendAll S [[0]] args) := evCallFz0 fn11 rfl rfl args S
attribute [go_sem] call11 callz11
theorem e11 (a0 : Int) (r : (Session × Bool)) (h : m11 a0 = some r) : evFL T 11 [.int .i64 a0] [] = some (.tup [.agg [.int .i64 r.1.state, .int .i64 r.1.hold, .int .i64 r.1.left, .int .i64 r.1.quiet, .int .i64 r.1.ups], .bool r.2], []) := by
  unfold m11 at h
  rw [evFL_at fn11 (Nat.le_of_ble_eq_true rfl) rfl (.inr rfl)]
  obtain ⟨r3, q1, h⟩ := bnd_some h
  have w2 := e39 a0 3 90 r3 q1
  try simp -implicitDefEqProofs only [go_sem, Nat.reduceLT, Nat.reduceAdd, Nat.reduceSub, Nat.reduceMul, Nat.reduceEqDiff, Nat.reduceBEq, Nat.reduceLeDiff, Int.reduceToNat, Int.reduceLT, Int.reduceLE, Int.reduceEq, reduceCtorEq, ↓reduceIte] at w2
  try simp -implicitDefEqProofs only [go_sem, Nat.reduceLT, Nat.reduceAdd, Nat.reduceSub, Nat.reduceMul, Nat.reduceEqDiff, Nat.reduceBEq, Nat.reduceLeDiff, Int.reduceToNat, Int.reduceLT, Int.reduceLE, Int.reduceEq, reduceCtorEq, ↓reduceIte, i11, c11, w2]
  cases b4 : (r3 : Bool)
  · replace h := br_f b4 h
    cases h
    simp -implicitDefEqProofs only [go_sem, Nat.reduceLT, Nat.reduceAdd, Nat.reduceSub, Nat.reduceMul, Nat.reduceEqDiff, Nat.reduceBEq, Nat.reduceLeDiff, Int.reduceToNat, Int.reduceLT, Int.reduceLE, Int.reduceEq, reduceCtorEq, ↓reduceIte, i11, c11, w2, b4]
  · replace h := br_t b4 h
    cases h
    simp -implicitDefEqProofs only [go_sem, Nat.reduceLT, Nat.reduceAdd, Nat.reduceSub, Nat.reduceMul, Nat.reduceEqDiff, Nat.reduceBEq, Nat.reduceLeDiff, Int.reduceToNat, Int.reduceLT, Int.reduceLE, Int.reduceEq, reduceCtorEq, ↓reduceIte, i11, c11, w2, b4]
-- f60 spec.l12To
theorem call60 (args : List AV) (S : St) : evCall T (evFL T) 60 args S = lendC (evFL T 60) S (lendAll S [[0, 0, 0, 0, 0], [0]] args) := evCall0 fn60 rfl rfl args S
theorem callz60 (args : List AV) (S : St) : evCallFz T (evFL T) 60 args S = lendZ (evFL T 60) S [[0, 0, 0, 0, 0]] (lendAll S [[0, 0, 0, 0, 0], [0]] args) := evCallFz0 fn60 rfl rfl args S
attribute [go_sem] call60 callz60
theorem e60 (a0 : Session) (a1 : Int) (r : Session) (h : m60 a0 a1 = some r) : evFL T 60 [.agg [.int .i64 a0.state, .int .i64 a0.hold, .int .i64 a0.left, .int .i64 a0.quiet, .int .i64 a0.ups], .int .i64 a1] [] = some (.agg [.int .i64 r.state, .int .i64 r.hold, .int .i64 r.left, .int .i64 r.quiet, .int .i64 r.ups], []) := by
  unfold m60 at h
  rw [evFL_at fn60 (Nat.le_of_ble_eq_true rfl) rfl (.inr rfl)]
  cases h
  simp -implicitDefEqProofs only [go_sem, Nat.reduceLT, Nat.reduceAdd, Nat.reduceSub, Nat.reduceMul, Nat.reduceEqDiff, Nat.reduceBEq, Nat.reduceLeDiff, Int.reduceToNat, Int.reduceLT, Int.reduceLE, Int.reduceEq, reduceCtorEq, ↓reduceIte, i60, c60]
-- f49 spec.l12Tick
theorem call49 (args : List AV) (S : St) : evCall T (evFL T) 49 args S = lendC (evFL T 49) S (lendAll S [[0, 0, 0, 0, 0]] args) := evCall0 fn49 rfl rfl args S
theorem callz49 (args : List AV) (S : St) : evCallFz T (evFL T) 49 args S = lendZ (evFL T 49) S [[0, 0, 0, 0, 0], [1]] (lendAll S [[0, 0, 0, 0, 0]] args) := evCallFz0 fn49 rfl rfl args S
attribute [go_sem] call49 callz49
theorem e49 (a0 : Session) (r : (Session × (List Int))) (h : m49 a0 = some r) : evFL T 49 [.agg [.int .i64 a0.state, .int .i64 a0.hold, .int .i64 a0.left, .int .i64 a0.quiet, .int .i64 a0.ups]] [] = some (.tup [.agg [.int .i64 r.1.state, .int .i64 r.1.hold, .int .i64 r.1.left, .int .i64 r.1.quiet, .int .i64 r.1.ups], .sl 0 0 r.2.length], [some ⟨.arr, 1, r.2.map encInt⟩]) := by
  unfold m49 at h
  rw [evFL_at fn49 (Nat.le_of_ble_eq_true rfl) rfl (.inr rfl)]
  try simp -implicitDefEqProofs only [go_sem, Nat.reduceLT, Nat.reduceAdd, Nat.reduceSub, Nat.reduceMul, Nat.reduceEqDiff, Nat.reduceBEq, Nat.reduceLeDiff, Int.reduceToNat, Int.reduceLT, Int.reduceLE, Int.reduceEq, reduceCtorEq, ↓reduceIte, i49, c49]
  cases b1 : (ltI a0.state 2 : Bool)
  · replace h := br_f b1 h
    try simp -implicitDefEqProofs only [go_sem, Nat.reduceLT, Nat.reduceAdd, Nat.reduceSub, Nat.reduceMul, Nat.reduceEqDiff, Nat.reduceBEq, Nat.reduceLeDiff, Int.reduceToNat, Int.reduceLT, Int.reduceLE, Int.reduceEq, reduceCtorEq, ↓reduceIte, i49, c49, b1]
    cases b2 : (eqI (wsub .i64 a0.left 1) 0 : Bool)
    · replace h := br_f b2 h
      try simp -implicitDefEqProofs only [go_sem, Nat.reduceLT, Nat.reduceAdd, Nat.reduceSub, Nat.reduceMul, Nat.reduceEqDiff, Nat.reduceBEq, Nat.reduceLeDiff, Int.reduceToNat, Int.reduceLT, Int.reduceLE, Int.reduceEq, reduceCtorEq, ↓reduceIte, i49, c49, b1, b2]
      cases b6 : (eqI a0.state 2 : Bool)
      · replace h := br_f b6 h
        try simp -implicitDefEqProofs only [go_sem, Nat.reduceLT, Nat.reduceAdd, Nat.reduceSub, Nat.reduceMul, Nat.reduceEqDiff, Nat.reduceBEq, Nat.reduceLeDiff, Int.reduceToNat, Int.reduceLT, Int.reduceLE, Int.reduceEq, reduceCtorEq, ↓reduceIte, i49, c49, b1, b2, b6]
        cases b7 : (eqI (wsub .i64 a0.quiet 1) 0 : Bool)
        · replace h := br_f b7 h
          cases h
          simp -implicitDefEqProofs only [go_sem, Nat.reduceLT, Nat.reduceAdd, Nat.reduceSub, Nat.reduceMul, Nat.reduceEqDiff, Nat.reduceBEq, Nat.reduceLeDiff, Int.reduceToNat, Int.reduceLT, Int.reduceLE, Int.reduceEq, reduceCtorEq, ↓reduceIte, i49, c49, b1, b2, b6, b7]
        · replace h := br_t b7 h
          cases h
          simp -implicitDefEqProofs only [go_sem, Nat.reduceLT, Nat.reduceAdd, Nat.reduceSub, Nat.reduceMul, Nat.reduceEqDiff, Nat.reduceBEq, Nat.reduceLeDiff, Int.reduceToNat, Int.reduceLT, Int.reduceLE, Int.reduceEq, reduceCtorEq, ↓reduceIte, i49, c49, b1, b2, b6, b7]
      · replace h := br_t b6 h
        cases h
        simp -implicitDefEqProofs only [go_sem, Nat.reduceLT, Nat.reduceAdd, Nat.reduceSub, Nat.reduceMul, Nat.reduceEqDiff, Nat.reduceBEq, Nat.reduceLeDiff, Int.reduceToNat, Int.reduceLT, Int.reduceLE, Int.reduceEq, reduceCtorEq, ↓reduceIte, i49, c49, b1, b2, b6]
    · replace h := br_t b2 h
      obtain ⟨r5, q3, h⟩ := bnd_some h
      have w4 := e60 (⟨a0.state, a0.hold, wsub .i64 a0.left 1, a0.quiet, a0.ups⟩ : Session) 0 r5 q3
      try simp -implicitDefEqProofs only [go_sem, Nat.reduceLT, Nat.reduceAdd, Nat.reduceSub, Nat.reduceMul, Nat.reduceEqDiff, Nat.reduceBEq, Nat.reduceLeDiff, Int.reduceToNat, Int.reduceLT, Int.reduceLE, Int.reduceEq, reduceCtorEq, ↓reduceIte] at w4
      cases h
      simp -implicitDefEqProofs only [go_sem, Nat.reduceLT, Nat.reduceAdd, Nat.reduceSub, Nat.reduceMul, Nat.reduceEqDiff, Nat.reduceBEq, Nat.reduceLeDiff, Int.reduceToNat, Int.reduceLT, Int.reduceLE, Int.reduceEq, reduceCtorEq, ↓reduceIte, i49, c49, b1, b2, w4]
  · replace h := br_t b1 h
    cases h
    simp -implicitDefEqProofs only [go_sem, Nat.reduceLT, Nat.reduceAdd, Nat.reduceSub, Nat.reduceMul, Nat.reduceEqDiff, Nat.reduceBEq, Nat.reduceLeDiff, Int.reduceToNat, Int.reduceLT, Int.reduceLE, Int.reduceEq, reduceCtorEq, ↓reduceIte, i49, c49, b1]
-- f42 spec.l12Step
def X42_1 (p6 : Bool) (a0 : Session) (a1 : Evt) (p7 : Session) (o : Bool) : Ex × Fr × St :=
  (.normal, frOf 144 (upd (upd (upd (upd (upd anyF 2 (.ptr 0 0 0)) 3 (.ptr 1 0 0)) 4 (.ptr 2 0 0)) 6 (.bool p6)) 18 (.bool o)), [some ⟨.box, 5, [[.int .i64 a0.state, .int .i64 a0.hold, .int .i64 a0.left, .int .i64 a0.quiet, .int .i64 a0.ups]]⟩, some ⟨.box, 2, [[.int .i64 a1.kind, .int .i64 a1.n]]⟩, some ⟨.box, 5, [[.int .i64 p7.state, .int .i64 p7.hold, .int .i64 p7.left, .int .i64 p7.quiet, .int .i64 p7.ups]]⟩])
theorem e42_1 (p6 : Bool) (a0 : Session) (a1 : Evt) (p7 : Session) (o : Bool) (h : m42_1 a0 a1 = some o) : evCL T 0 k42_1 (frOf 144 (upd (upd (upd (upd anyF 2 (.ptr 0 0 0)) 3 (.ptr 1 0 0)) 4 (.ptr 2 0 0)) 6 (.bool p6))) [some ⟨.box, 5, [[.int .i64 a0.state, .int .i64 a0.hold, .int .i64 a0.left, .int .i64 a0.quiet, .int .i64 a0.ups]]⟩, some ⟨.box, 2, [[.int .i64 a1.kind, .int .i64 a1.n]]⟩, some ⟨.box, 5, [[.int .i64 p7.state, .int .i64 p7.hold, .int .i64 p7.left, .int .i64 p7.quiet, .int .i64 p7.ups]]⟩] = some (X42_1 p6 a0 a1 p7 o) := by
  unfold m42_1 at h
  try simp -implicitDefEqProofs only [go_sem, Nat.reduceLT, Nat.reduceAdd, Nat.reduceSub, Nat.reduceMul, Nat.reduceEqDiff, Nat.reduceBEq, Nat.reduceLeDiff, Int.reduceToNat, Int.reduceLT, Int.reduceLE, Int.reduceEq, reduceCtorEq, ↓reduceIte, X42_1, k42_1]
  cases b8 : (eqI a1.kind 1 : Bool)
  · replace h := br_f b8 h
    cases h
    simp -implicitDefEqProofs only [go_sem, Nat.reduceLT, Nat.reduceAdd, Nat.reduceSub, Nat.reduceMul, Nat.reduceEqDiff, Nat.reduceBEq, Nat.reduceLeDiff, Int.reduceToNat, Int.reduceLT, Int.reduceLE, Int.reduceEq, reduceCtorEq, ↓reduceIte, X42_1, k42_1, b8]
  · replace h := br_t b8 h
    cases h
    simp -implicitDefEqProofs only [go_sem, Nat.reduceLT, Nat.reduceAdd, Nat.reduceSub, Nat.reduceMul, Nat.reduceEqDiff, Nat.reduceBEq, Nat.reduceLeDiff, Int.reduceToNat, Int.reduceLT, Int.reduceLE, Int.reduceEq, reduceCtorEq, ↓reduceIte, X42_1, k42_1, b8]
def X42_2 (p16 : Bool) (a0 : Session) (a1 : Evt) (p17 : Session) (o : Bool) : Ex × Fr × St :=
  (.normal, frOf 144 (upd (upd (upd (upd (upd anyF 2 (.ptr 0 0 0)) 3 (.ptr 1 0 0)) 4 (.ptr 2 0 0)) 6 (.bool p16)) 29 (.bool o)), [some ⟨.box, 5, [[.int .i64 a0.state, .int .i64 a0.hold, .int .i64 a0.left, .int .i64 a0.quiet, .int .i64 a0.ups]]⟩, some ⟨.box, 2, [[.int .i64 a1.kind, .int .i64 a1.n]]⟩, some ⟨.box, 5, [[.int .i64 p17.state, .int .i64 p17.hold, .int .i64 p17.left, .int .i64 p17.quiet, .int .i64 p17.ups]]⟩])
theorem e42_2 (p16 : Bool) (a0 : Session) (a1 : Evt) (p17 : Session) (o : Bool) (h : m42_2 a0 a1 = some o) : evCL T 0 k42_2 (frOf 144 (upd (upd (upd (upd anyF 2 (.ptr 0 0 0)) 3 (.ptr 1 0 0)) 4 (.ptr 2 0 0)) 6 (.bool p16))) [some ⟨.box, 5, [[.int .i64 a0.state, .int .i64 a0.hold, .int .i64 a0.left, .int .i64 a0.quiet, .int .i64 a0.ups]]⟩, some ⟨.box, 2, [[.int .i64 a1.kind, .int .i64 a1.n]]⟩, some ⟨.box, 5, [[.int .i64 p17.state, .int .i64 p17.hold, .int .i64 p17.left, .int .i64 p17.quiet, .int .i64 p17.ups]]⟩] = some (X42_2 p16 a0 a1 p17 o) := by
  unfold m42_2 at h
  try simp -implicitDefEqProofs only [go_sem, Nat.reduceLT, Nat.reduceAdd, Nat.reduceSub, Nat.reduceMul, Nat.reduceEqDiff, Nat.reduceBEq, Nat.reduceLeDiff, Int.reduceToNat, Int.reduceLT, Int.reduceLE, Int.reduceEq, reduceCtorEq, ↓reduceIte, X42_2, k42_2]
  cases b18 : (eqI a1.kind 3 : Bool)
  · replace h := br_f b18 h
    cases h
    simp -implicitDefEqProofs only [go_sem, Nat.reduceLT, Nat.reduceAdd, Nat.reduceSub, Nat.reduceMul, Nat.reduceEqDiff, Nat.reduceBEq, Nat.reduceLeDiff, Int.reduceToNat, Int.reduceLT, Int.reduceLE, Int.reduceEq, reduceCtorEq, ↓reduceIte, X42_2, k42_2, b18]
  · replace h := br_t b18 h
    cases h
    simp -implicitDefEqProofs only [go_sem, Nat.reduceLT, Nat.reduceAdd, Nat.reduceSub, Nat.reduceMul, Nat.reduceEqDiff, Nat.reduceBEq, Nat.reduceLeDiff, Int.reduceToNat, Int.reduceLT, Int.reduceLE, Int.reduceEq, reduceCtorEq, ↓reduceIte, X42_2, k42_2, b18]
def X42_3 (p26 : Bool) (a0 : Session) (a1 : Evt) (p27 : Session) (o : Bool) : Ex × Fr × St :=
  (.normal, frOf 144 (upd (upd (upd (upd (upd anyF 2 (.ptr 0 0 0)) 3 (.ptr 1 0 0)) 4 (.ptr 2 0 0)) 6 (.bool p26)) 43 (.bool o)), [some ⟨.box, 5, [[.int .i64 a0.state, .int .i64 a0.hold, .int .i64 a0.left, .int .i64 a0.quiet, .int .i64 a0.ups]]⟩, some ⟨.box, 2, [[.int .i64 a1.kind, .int .i64 a1.n]]⟩, some ⟨.box, 5, [[.int .i64 p27.state, .int .i64 p27.hold, .int .i64 p27.left, .int .i64 p27.quiet, .int .i64 p27.ups]]⟩])
theorem e42_3 (p26 : Bool) (a0 : Session) (a1 : Evt) (p27 : Session) (o : Bool) (h : m42_3 p26 a1 = some o) : evCL T 0 k42_3 (frOf 144 (upd (upd (upd (upd anyF 2 (.ptr 0 0 0)) 3 (.ptr 1 0 0)) 4 (.ptr 2 0 0)) 6 (.bool p26))) [some ⟨.box, 5, [[.int .i64 a0.state, .int .i64 a0.hold, .int .i64 a0.left, .int .i64 a0.quiet, .int .i64 a0.ups]]⟩, some ⟨.box, 2, [[.int .i64 a1.kind, .int .i64 a1.n]]⟩, some ⟨.box, 5, [[.int .i64 p27.state, .int .i64 p27.hold, .int .i64 p27.left, .int .i64 p27.quiet, .int .i64 p27.ups]]⟩] = some (X42_3 p26 a0 a1 p27 o) := by
  unfold m42_3 at h
  try simp -implicitDefEqProofs only [go_sem, Nat.reduceLT, Nat.reduceAdd, Nat.reduceSub, Nat.reduceMul, Nat.reduceEqDiff, Nat.reduceBEq, Nat.reduceLeDiff, Int.reduceToNat, Int.reduceLT, Int.reduceLE, Int.reduceEq, reduceCtorEq, ↓reduceIte, X42_3, k42_3]
  cases b28 : (eqI a1.kind 4 : Bool)
  · replace h := br_f b28 h
    cases h
    simp -implicitDefEqProofs only [go_sem, Nat.reduceLT, Nat.reduceAdd, Nat.reduceSub, Nat.reduceMul, Nat.reduceEqDiff, Nat.reduceBEq, Nat.reduceLeDiff, Int.reduceToNat, Int.reduceLT, Int.reduceLE, Int.reduceEq, reduceCtorEq, ↓reduceIte, X42_3, k42_3, b28]
  · replace h := br_t b28 h
    cases h
    simp -implicitDefEqProofs only [go_sem, Nat.reduceLT, Nat.reduceAdd, Nat.reduceSub, Nat.reduceMul, Nat.reduceEqDiff, Nat.reduceBEq, Nat.reduceLeDiff, Int.reduceToNat, Int.reduceLT, Int.reduceLE, Int.reduceEq, reduceCtorEq, ↓reduceIte, X42_3, k42_3, b28]
def X42_4 (p36 : Bool) (a0 : Session) (a1 : Evt) (p37 : Session) (o : Bool) : Ex × Fr × St :=
  (.normal, frOf 144 (upd (upd (upd (upd (upd anyF 2 (.ptr 0 0 0)) 3 (.ptr 1 0 0)) 4 (.ptr 2 0 0)) 6 (.bool p36)) 52 (.bool o)), [some ⟨.box, 5, [[.int .i64 a0.state, .int .i64 a0.hold, .int .i64 a0.left, .int .i64 a0.quiet, .int .i64 a0.ups]]⟩, some ⟨.box, 2, [[.int .i64 a1.kind, .int .i64 a1.n]]⟩, some ⟨.box, 5, [[.int .i64 p37.state, .int .i64 p37.hold, .int .i64 p37.left, .int .i64 p37.quiet, .int .i64 p37.ups]]⟩])
theorem e42_4 (p36 : Bool) (a0 : Session) (a1 : Evt) (p37 : Session) (o : Bool) (h : m42_4 p36 a1 = some o) : evCL T 0 k42_4 (frOf 144 (upd (upd (upd (upd anyF 2 (.ptr 0 0 0)) 3 (.ptr 1 0 0)) 4 (.ptr 2 0 0)) 6 (.bool p36))) [some ⟨.box, 5, [[.int .i64 a0.state, .int .i64 a0.hold, .int .i64 a0.left, .int .i64 a0.quiet, .int .i64 a0.ups]]⟩, some ⟨.box, 2, [[.int .i64 a1.kind, .int .i64 a1.n]]⟩, some ⟨.box, 5, [[.int .i64 p37.state, .int .i64 p37.hold, .int .i64 p37.left, .int .i64 p37.quiet, .int .i64 p37.ups]]⟩] = some (X42_4 p36 a0 a1 p37 o) := by
  unfold m42_4 at h
  try simp -implicitDefEqProofs only [go_sem, Nat.reduceLT, Nat.reduceAdd, Nat.reduceSub, Nat.reduceMul, Nat.reduceEqDiff, Nat.reduceBEq, Nat.reduceLeDiff, Int.reduceToNat, Int.reduceLT, Int.reduceLE, Int.reduceEq, reduceCtorEq, ↓reduceIte, X42_4, k42_4]
  cases b38 : (eqI a1.kind 9 : Bool)
  · replace h := br_f b38 h
    cases h
    simp -implicitDefEqProofs only [go_sem, Nat.reduceLT, Nat.reduceAdd, Nat.reduceSub, Nat.reduceMul, Nat.reduceEqDiff, Nat.reduceBEq, Nat.reduceLeDiff, Int.reduceToNat, Int.reduceLT, Int.reduceLE, Int.reduceEq, reduceCtorEq, ↓reduceIte, X42_4, k42_4, b38]
  · replace h := br_t b38 h
    cases h
    simp -implicitDefEqProofs only [go_sem, Nat.reduceLT, Nat.reduceAdd, Nat.reduceSub, Nat.reduceMul, Nat.reduceEqDiff, Nat.reduceBEq, Nat.reduceLeDiff, Int.reduceToNat, Int.reduceLT, Int.reduceLE, Int.reduceEq, reduceCtorEq, ↓reduceIte, X42_4, k42_4, b38]
def X42_5 (p46 : Bool) (a0 : Session) (a1 : Evt) (p47 : Session) (o : Bool) : Ex × Fr × St :=
  (.normal, frOf 144 (upd (upd (upd (upd (upd anyF 2 (.ptr 0 0 0)) 3 (.ptr 1 0 0)) 4 (.ptr 2 0 0)) 6 (.bool p46)) 61 (.bool o)), [some ⟨.box, 5, [[.int .i64 a0.state, .int .i64 a0.hold, .int .i64 a0.left, .int .i64 a0.quiet, .int .i64 a0.ups]]⟩, some ⟨.box, 2, [[.int .i64 a1.kind, .int .i64 a1.n]]⟩, some ⟨.box, 5, [[.int .i64 p47.state, .int .i64 p47.hold, .int .i64 p47.left, .int .i64 p47.quiet, .int .i64 p47.ups]]⟩])
theorem e42_5 (p46 : Bool) (a0 : Session) (a1 : Evt) (p47 : Session) (o : Bool) (h : m42_5 p46 a1 = some o) : evCL T 0 k42_5 (frOf 144 (upd (upd (upd (upd anyF 2 (.ptr 0 0 0)) 3 (.ptr 1 0 0)) 4 (.ptr 2 0 0)) 6 (.bool p46))) [some ⟨.box, 5, [[.int .i64 a0.state, .int .i64 a0.hold, .int .i64 a0.left, .int .i64 a0.quiet, .int .i64 a0.ups]]⟩, some ⟨.box, 2, [[.int .i64 a1.kind, .int .i64 a1.n]]⟩, some ⟨.box, 5, [[.int .i64 p47.state, .int .i64 p47.hold, .int .i64 p47.left, .int .i64 p47.quiet, .int .i64 p47.ups]]⟩] = some (X42_5 p46 a0 a1 p47 o) := by
  unfold m42_5 at h
  try simp -implicitDefEqProofs only [go_sem, Nat.reduceLT, Nat.reduceAdd, Nat.reduceSub, Nat.reduceMul, Nat.reduceEqDiff, Nat.reduceBEq, Nat.reduceLeDiff, Int.reduceToNat, Int.reduceLT, Int.reduceLE, Int.reduceEq, reduceCtorEq, ↓reduceIte, X42_5, k42_5]
  cases b48 : (eqI a1.kind 2 : Bool)
  · replace h := br_f b48 h
    cases h
    simp -implicitDefEqProofs only [go_sem, Nat.reduceLT, Nat.reduceAdd, Nat.reduceSub, Nat.reduceMul, Nat.reduceEqDiff, Nat.reduceBEq, Nat.reduceLeDiff, Int.reduceToNat, Int.reduceLT, Int.reduceLE, Int.reduceEq, reduceCtorEq, ↓reduceIte, X42_5, k42_5, b48]
  · replace h := br_t b48 h
    cases h
    simp -implicitDefEqProofs only [go_sem, Nat.reduceLT, Nat.reduceAdd, Nat.reduceSub, Nat.reduceMul, Nat.reduceEqDiff, Nat.reduceBEq, Nat.reduceLeDiff, Int.reduceToNat, Int.reduceLT, Int.reduceLE, Int.reduceEq, reduceCtorEq, ↓reduceIte, X42_5, k42_5, b48]
def X42_6 (a0 : Session) (a1 : Evt) (p57 : Session) (o : Bool) : Ex × Fr × St :=
  (.normal, frOf 144 (upd (upd (upd (upd anyF 2 (.ptr 0 0 0)) 3 (.ptr 1 0 0)) 4 (.ptr 2 0 0)) 75 (.bool o)), [some ⟨.box, 5, [[.int .i64 a0.state, .int .i64 a0.hold, .int .i64 a0.left, .int .i64 a0.quiet, .int .i64 a0.ups]]⟩, some ⟨.box, 2, [[.int .i64 a1.kind, .int .i64 a1.n]]⟩, some ⟨.box, 5, [[.int .i64 p57.state, .int .i64 p57.hold, .int .i64 p57.left, .int .i64 p57.quiet, .int .i64 p57.ups]]⟩])
theorem e42_6 (a0 : Session) (a1 : Evt) (p57 : Session) (o : Bool) (h : m42_6 a0 a1 = some o) : evCL T 0 k42_6 (frOf 144 (upd (upd (upd anyF 2 (.ptr 0 0 0)) 3 (.ptr 1 0 0)) 4 (.ptr 2 0 0))) [some ⟨.box, 5, [[.int .i64 a0.state, .int .i64 a0.hold, .int .i64 a0.left, .int .i64 a0.quiet, .int .i64 a0.ups]]⟩, some ⟨.box, 2, [[.int .i64 a1.kind, .int .i64 a1.n]]⟩, some ⟨.box, 5, [[.int .i64 p57.state, .int .i64 p57.hold, .int .i64 p57.left, .int .i64 p57.quiet, .int .i64 p57.ups]]⟩] = some (X42_6 a0 a1 p57 o) := by
  unfold m42_6 at h
  try simp -implicitDefEqProofs only [go_sem, Nat.reduceLT, Nat.reduceAdd, Nat.reduceSub, Nat.reduceMul, Nat.reduceEqDiff, Nat.reduceBEq, Nat.reduceLeDiff, Int.reduceToNat, Int.reduceLT, Int.reduceLE, Int.reduceEq, reduceCtorEq, ↓reduceIte, X42_6, k42_6]
  cases b58 : (eqI a1.kind 5 : Bool)
  · replace h := br_f b58 h
    cases h
    simp -implicitDefEqProofs only [go_sem, Nat.reduceLT, Nat.reduceAdd, Nat.reduceSub, Nat.reduceMul, Nat.reduceEqDiff, Nat.reduceBEq, Nat.reduceLeDiff, Int.reduceToNat, Int.reduceLT, Int.reduceLE, Int.reduceEq, reduceCtorEq, ↓reduceIte, X42_6, k42_6, b58]
  · replace h := br_t b58 h
    try simp -implicitDefEqProofs only [go_sem, Nat.reduceLT, Nat.reduceAdd, Nat.reduceSub, Nat.reduceMul, Nat.reduceEqDiff, Nat.reduceBEq, Nat.reduceLeDiff, Int.reduceToNat, Int.reduceLT, Int.reduceLE, Int.reduceEq, reduceCtorEq, ↓reduceIte, X42_6, k42_6, b58]
    cases b59 : (eqI a0.state 2 : Bool)
    · replace h := br_f b59 h
      cases h
      simp -implicitDefEqProofs only [go_sem, Nat.reduceLT, Nat.reduceAdd, Nat.reduceSub, Nat.reduceMul, Nat.reduceEqDiff, Nat.reduceBEq, Nat.reduceLeDiff, Int.reduceToNat, Int.reduceLT, Int.reduceLE, Int.reduceEq, reduceCtorEq, ↓reduceIte, X42_6, k42_6, b58, b59]
    · replace h := br_t b59 h
      cases h
      simp -implicitDefEqProofs only [go_sem, Nat.reduceLT, Nat.reduceAdd, Nat.reduceSub, Nat.reduceMul, Nat.reduceEqDiff, Nat.reduceBEq, Nat.reduceLeDiff, Int.reduceToNat, Int.reduceLT, Int.reduceLE, Int.reduceEq, reduceCtorEq, ↓reduceIte, X42_6, k42_6, b58, b59]
def X42_7 (p64 : Bool) (p65 : Session) (a1 : Evt) (p66 : Session) (o : Session) : Ex × Fr × St :=
  (.normal, frOf 144 (upd (upd anyF 2 (.ptr 0 0 0)) 4 (.ptr 1 0 0)), [some ⟨.box, 5, [[.int .i64 o.state, .int .i64 o.hold, .int .i64 o.left, .int .i64 o.quiet, .int .i64 o.ups]]⟩, some ⟨.box, 5, [[.int .i64 p66.state, .int .i64 p66.hold, .int .i64 p66.left, .int .i64 p66.quiet, .int .i64 p66.ups]]⟩])
theorem e42_7 (p64 : Bool) (p65 : Session) (a1 : Evt) (p66 : Session) (o : Session) (h : m42_7 p64 p65 a1 = some o) : evCL T 0 k42_7 (frOf 144 (upd (upd (upd (upd anyF 2 (.ptr 0 0 0)) 3 (.ptr 1 0 0)) 4 (.ptr 2 0 0)) 94 (.bool p64))) [some ⟨.box, 5, [[.int .i64 p65.state, .int .i64 p65.hold, .int .i64 p65.left, .int .i64 p65.quiet, .int .i64 p65.ups]]⟩, some ⟨.box, 2, [[.int .i64 a1.kind, .int .i64 a1.n]]⟩, some ⟨.box, 5, [[.int .i64 p66.state, .int .i64 p66.hold, .int .i64 p66.left, .int .i64 p66.quiet, .int .i64 p66.ups]]⟩] = some (X42_7 p64 p65 a1 p66 o) := by
  unfold m42_7 at h
  try simp -implicitDefEqProofs only [go_sem, Nat.reduceLT, Nat.reduceAdd, Nat.reduceSub, Nat.reduceMul, Nat.reduceEqDiff, Nat.reduceBEq, Nat.reduceLeDiff, Int.reduceToNat, Int.reduceLT, Int.reduceLE, Int.reduceEq, reduceCtorEq, ↓reduceIte, X42_7, k42_7]
  cases b67 : (p64 : Bool)
  · replace h := br_f b67 h
    cases h
    simp -implicitDefEqProofs only [go_sem, Nat.reduceLT, Nat.reduceAdd, Nat.reduceSub, Nat.reduceMul, Nat.reduceEqDiff, Nat.reduceBEq, Nat.reduceLeDiff, Int.reduceToNat, Int.reduceLT, Int.reduceLE, Int.reduceEq, reduceCtorEq, ↓reduceIte, X42_7, k42_7, b67]
  · replace h := br_t b67 h
    cases h
    simp -implicitDefEqProofs only [go_sem, Nat.reduceLT, Nat.reduceAdd, Nat.reduceSub, Nat.reduceMul, Nat.reduceEqDiff, Nat.reduceBEq, Nat.reduceLeDiff, Int.reduceToNat, Int.reduceLT, Int.reduceLE, Int.reduceEq, reduceCtorEq, ↓reduceIte, X42_7, k42_7, b67]
def X42_8 (a0 : Session) (a1 : Evt) (p71 : Session) (o : Bool) : Ex × Fr × St :=
  (.normal, frOf 144 (upd (upd (upd (upd anyF 2 (.ptr 0 0 0)) 3 (.ptr 1 0 0)) 4 (.ptr 2 0 0)) 107 (.bool o)), [some ⟨.box, 5, [[.int .i64 a0.state, .int .i64 a0.hold, .int .i64 a0.left, .int .i64 a0.quiet, .int .i64 a0.ups]]⟩, some ⟨.box, 2, [[.int .i64 a1.kind, .int .i64 a1.n]]⟩, some ⟨.box, 5, [[.int .i64 p71.state, .int .i64 p71.hold, .int .i64 p71.left, .int .i64 p71.quiet, .int .i64 p71.ups]]⟩])
theorem e42_8 (a0 : Session) (a1 : Evt) (p71 : Session) (o : Bool) (h : m42_8 a0 a1 = some o) : evCL T 0 k42_8 (frOf 144 (upd (upd (upd anyF 2 (.ptr 0 0 0)) 3 (.ptr 1 0 0)) 4 (.ptr 2 0 0))) [some ⟨.box, 5, [[.int .i64 a0.state, .int .i64 a0.hold, .int .i64 a0.left, .int .i64 a0.quiet, .int .i64 a0.ups]]⟩, some ⟨.box, 2, [[.int .i64 a1.kind, .int .i64 a1.n]]⟩, some ⟨.box, 5, [[.int .i64 p71.state, .int .i64 p71.hold, .int .i64 p71.left, .int .i64 p71.quiet, .int .i64 p71.ups]]⟩] = some (X42_8 a0 a1 p71 o) := by
  unfold m42_8 at h
  try simp -implicitDefEqProofs only [go_sem, Nat.reduceLT, Nat.reduceAdd, Nat.reduceSub, Nat.reduceMul, Nat.reduceEqDiff, Nat.reduceBEq, Nat.reduceLeDiff, Int.reduceToNat, Int.reduceLT, Int.reduceLE, Int.reduceEq, reduceCtorEq, ↓reduceIte, X42_8, k42_8]
  cases b72 : (eqI a1.kind 7 : Bool)
  · replace h := br_f b72 h
    cases h
    simp -implicitDefEqProofs only [go_sem, Nat.reduceLT, Nat.reduceAdd, Nat.reduceSub, Nat.reduceMul, Nat.reduceEqDiff, Nat.reduceBEq, Nat.reduceLeDiff, Int.reduceToNat, Int.reduceLT, Int.reduceLE, Int.reduceEq, reduceCtorEq, ↓reduceIte, X42_8, k42_8, b72]
  · replace h := br_t b72 h
    cases h
    simp -implicitDefEqProofs only [go_sem, Nat.reduceLT, Nat.reduceAdd, Nat.reduceSub, Nat.reduceMul, Nat.reduceEqDiff, Nat.reduceBEq, Nat.reduceLeDiff, Int.reduceToNat, Int.reduceLT, Int.reduceLE, Int.reduceEq, reduceCtorEq, ↓reduceIte, X42_8, k42_8, b72]
def X42_10 (a0 : Session) (a1 : Evt) (p76 : Session) (o : Bool) : Ex × Fr × St :=
  (.normal, frOf 144 (upd (upd (upd anyF 2 (.ptr 0 0 0)) 4 (.ptr 1 0 0)) 107 (.bool o)), [some ⟨.box, 5, [[.int .i64 a0.state, .int .i64 a0.hold, .int .i64 a0.left, .int .i64 a0.quiet, .int .i64 a0.ups]]⟩, some ⟨.box, 5, [[.int .i64 p76.state, .int .i64 p76.hold, .int .i64 p76.left, .int .i64 p76.quiet, .int .i64 p76.ups]]⟩])
theorem e42_10 (a0 : Session) (a1 : Evt) (p76 : Session) (o : Bool) (h : m42_10 a0 a1 = some o) : evCL T 0 k42_10 (frOf 144 (upd (upd (upd anyF 2 (.ptr 0 0 0)) 3 (.ptr 1 0 0)) 4 (.ptr 2 0 0))) [some ⟨.box, 5, [[.int .i64 a0.state, .int .i64 a0.hold, .int .i64 a0.left, .int .i64 a0.quiet, .int .i64 a0.ups]]⟩, some ⟨.box, 2, [[.int .i64 a1.kind, .int .i64 a1.n]]⟩, some ⟨.box, 5, [[.int .i64 p76.state, .int .i64 p76.hold, .int .i64 p76.left, .int .i64 p76.quiet, .int .i64 p76.ups]]⟩] = some (X42_10 a0 a1 p76 o) := by
  unfold m42_10 at h
  try simp -implicitDefEqProofs only [go_sem, Nat.reduceLT, Nat.reduceAdd, Nat.reduceSub, Nat.reduceMul, Nat.reduceEqDiff, Nat.reduceBEq, Nat.reduceLeDiff, Int.reduceToNat, Int.reduceLT, Int.reduceLE, Int.reduceEq, reduceCtorEq, ↓reduceIte, X42_10, k42_10]
  cases b78 : (eqI a1.kind 8 : Bool)
  · replace h := br_f b78 h
    cases h
    simp -implicitDefEqProofs only [go_sem, Nat.reduceLT, Nat.reduceAdd, Nat.reduceSub, Nat.reduceMul, Nat.reduceEqDiff, Nat.reduceBEq, Nat.reduceLeDiff, Int.reduceToNat, Int.reduceLT, Int.reduceLE, Int.reduceEq, reduceCtorEq, ↓reduceIte, X42_10, k42_10, b78]
  · replace h := br_t b78 h
    cases h
    simp -implicitDefEqProofs only [go_sem, Nat.reduceLT, Nat.reduceAdd, Nat.reduceSub, Nat.reduceMul, Nat.reduceEqDiff, Nat.reduceBEq, Nat.reduceLeDiff, Int.reduceToNat, Int.reduceLT, Int.reduceLE, Int.reduceEq, reduceCtorEq, ↓reduceIte, X42_10, k42_10, b78]
def X42_9 (v75 : Bool) (a0 : Session) (a1 : Evt) (p76 : Session) (o : Bool) : Ex × Fr × St :=
  (.normal, frOf 144 (upd (upd (upd anyF 2 (.ptr 0 0 0)) 4 (.ptr 1 0 0)) 107 (.bool o)), [some ⟨.box, 5, [[.int .i64 a0.state, .int .i64 a0.hold, .int .i64 a0.left, .int .i64 a0.quiet, .int .i64 a0.ups]]⟩, some ⟨.box, 5, [[.int .i64 p76.state, .int .i64 p76.hold, .int .i64 p76.left, .int .i64 p76.quiet, .int .i64 p76.ups]]⟩])
theorem e42_9 (v75 : Bool) (a0 : Session) (a1 : Evt) (p76 : Session) (o : Bool) (h : m42_9 v75 a0 a1 = some o) : evCL T 0 k42_9 (frOf 144 (upd (upd (upd (upd anyF 2 (.ptr 0 0 0)) 3 (.ptr 1 0 0)) 4 (.ptr 2 0 0)) 107 (.bool v75))) [some ⟨.box, 5, [[.int .i64 a0.state, .int .i64 a0.hold, .int .i64 a0.left, .int .i64 a0.quiet, .int .i64 a0.ups]]⟩, some ⟨.box, 2, [[.int .i64 a1.kind, .int .i64 a1.n]]⟩, some ⟨.box, 5, [[.int .i64 p76.state, .int .i64 p76.hold, .int .i64 p76.left, .int .i64 p76.quiet, .int .i64 p76.ups]]⟩] = some (X42_9 v75 a0 a1 p76 o) := by
  unfold m42_9 at h
  try simp -implicitDefEqProofs only [go_sem, Nat.reduceLT, Nat.reduceAdd, Nat.reduceSub, Nat.reduceMul, Nat.reduceEqDiff, Nat.reduceBEq, Nat.reduceLeDiff, Int.reduceToNat, Int.reduceLT, Int.reduceLE, Int.reduceEq, reduceCtorEq, ↓reduceIte, X42_9, k42_9]
  cases b77 : (v75 : Bool)
  · replace h := br_f b77 h
    obtain ⟨v81, q79, h⟩ := bnd_some h
    have w80 := e42_10 a0 a1 p76 v81 q79
    simp only [X42_10] at w80
    try simp -implicitDefEqProofs only [go_sem, Nat.reduceLT, Nat.reduceAdd, Nat.reduceSub, Nat.reduceMul, Nat.reduceEqDiff, Nat.reduceBEq, Nat.reduceLeDiff, Int.reduceToNat, Int.reduceLT, Int.reduceLE, Int.reduceEq, reduceCtorEq, ↓reduceIte] at w80
    cases h
    simp -implicitDefEqProofs only [go_sem, Nat.reduceLT, Nat.reduceAdd, Nat.reduceSub, Nat.reduceMul, Nat.reduceEqDiff, Nat.reduceBEq, Nat.reduceLeDiff, Int.reduceToNat, Int.reduceLT, Int.reduceLE, Int.reduceEq, reduceCtorEq, ↓reduceIte, X42_9, k42_9, b77, w80]
  · replace h := br_t b77 h
    cases h
    simp -implicitDefEqProofs only [go_sem, Nat.reduceLT, Nat.reduceAdd, Nat.reduceSub, Nat.reduceMul, Nat.reduceEqDiff, Nat.reduceBEq, Nat.reduceLeDiff, Int.reduceToNat, Int.reduceLT, Int.reduceLE, Int.reduceEq, reduceCtorEq, ↓reduceIte, X42_9, k42_9, b77]
def X42_11 (a0 : Session) (p86 : Session) (o : Bool) : Ex × Fr × St :=
  (.normal, frOf 144 (upd (upd (upd anyF 2 (.ptr 0 0 0)) 4 (.ptr 1 0 0)) 131 (.bool o)), [some ⟨.box, 5, [[.int .i64 a0.state, .int .i64 a0.hold, .int .i64 a0.left, .int .i64 a0.quiet, .int .i64 a0.ups]]⟩, some ⟨.box, 5, [[.int .i64 p86.state, .int .i64 p86.hold, .int .i64 p86.left, .int .i64 p86.quiet, .int .i64 p86.ups]]⟩])
theorem e42_11 (a0 : Session) (p86 : Session) (o : Bool) (h : m42_11 a0 = some o) : evCL T 0 k42_11 (frOf 144 (upd (upd anyF 2 (.ptr 0 0 0)) 4 (.ptr 1 0 0))) [some ⟨.box, 5, [[.int .i64 a0.state, .int .i64 a0.hold, .int .i64 a0.left, .int .i64 a0.quiet, .int .i64 a0.ups]]⟩, some ⟨.box, 5, [[.int .i64 p86.state, .int .i64 p86.hold, .int .i64 p86.left, .int .i64 p86.quiet, .int .i64 p86.ups]]⟩] = some (X42_11 a0 p86 o) := by
  unfold m42_11 at h
  try simp -implicitDefEqProofs only [go_sem, Nat.reduceLT, Nat.reduceAdd, Nat.reduceSub, Nat.reduceMul, Nat.reduceEqDiff, Nat.reduceBEq, Nat.reduceLeDiff, Int.reduceToNat, Int.reduceLT, Int.reduceLE, Int.reduceEq, reduceCtorEq, ↓reduceIte, X42_11, k42_11]
  cases b87 : (eqI a0.state 3 : Bool)
  · replace h := br_f b87 h
    cases h
    simp -implicitDefEqProofs only [go_sem, Nat.reduceLT, Nat.reduceAdd, Nat.reduceSub, Nat.reduceMul, Nat.reduceEqDiff, Nat.reduceBEq, Nat.reduceLeDiff, Int.reduceToNat, Int.reduceLT, Int.reduceLE, Int.reduceEq, reduceCtorEq, ↓reduceIte, X42_11, k42_11, b87]
  · replace h := br_t b87 h
    cases h
    simp -implicitDefEqProofs only [go_sem, Nat.reduceLT, Nat.reduceAdd, Nat.reduceSub, Nat.reduceMul, Nat.reduceEqDiff, Nat.reduceBEq, Nat.reduceLeDiff, Int.reduceToNat, Int.reduceLT, Int.reduceLE, Int.reduceEq, reduceCtorEq, ↓reduceIte, X42_11, k42_11, b87]
def X42_12 (v90 : Bool) (a0 : Session) (p91 : Session) (o : Session) : Ex × Fr × St :=
  (.normal, frOf 144 (upd (upd anyF 2 (.ptr 0 0 0)) 4 (.ptr 1 0 0)), [some ⟨.box, 5, [[.int .i64 o.state, .int .i64 o.hold, .int .i64 o.left, .int .i64 o.quiet, .int .i64 o.ups]]⟩, some ⟨.box, 5, [[.int .i64 p91.state, .int .i64 p91.hold, .int .i64 p91.left, .int .i64 p91.quiet, .int .i64 p91.ups]]⟩])
theorem e42_12 (v90 : Bool) (a0 : Session) (p91 : Session) (o : Session) (h : m42_12 v90 a0 = some o) : evCL T 0 k42_12 (frOf 144 (upd (upd (upd anyF 2 (.ptr 0 0 0)) 4 (.ptr 1 0 0)) 131 (.bool v90))) [some ⟨.box, 5, [[.int .i64 a0.state, .int .i64 a0.hold, .int .i64 a0.left, .int .i64 a0.quiet, .int .i64 a0.ups]]⟩, some ⟨.box, 5, [[.int .i64 p91.state, .int .i64 p91.hold, .int .i64 p91.left, .int .i64 p91.quiet, .int .i64 p91.ups]]⟩] = some (X42_12 v90 a0 p91 o) := by
  unfold m42_12 at h
  try simp -implicitDefEqProofs only [go_sem, Nat.reduceLT, Nat.reduceAdd, Nat.reduceSub, Nat.reduceMul, Nat.reduceEqDiff, Nat.reduceBEq, Nat.reduceLeDiff, Int.reduceToNat, Int.reduceLT, Int.reduceLE, Int.reduceEq, reduceCtorEq, ↓reduceIte, X42_12, k42_12]
  cases b92 : (v90 : Bool)
  · replace h := br_f b92 h
    cases h
    simp -implicitDefEqProofs only [go_sem, Nat.reduceLT, Nat.reduceAdd, Nat.reduceSub, Nat.reduceMul, Nat.reduceEqDiff, Nat.reduceBEq, Nat.reduceLeDiff, Int.reduceToNat, Int.reduceLT, Int.reduceLE, Int.reduceEq, reduceCtorEq, ↓reduceIte, X42_12, k42_12, b92]
  · replace h := br_t b92 h
    cases h
    simp -implicitDefEqProofs only [go_sem, Nat.reduceLT, Nat.reduceAdd, Nat.reduceSub, Nat.reduceMul, Nat.reduceEqDiff, Nat.reduceBEq, Nat.reduceLeDiff, Int.reduceToNat, Int.reduceLT, Int.reduceLE, Int.reduceEq, reduceCtorEq, ↓reduceIte, X42_12, k42_12, b92]
theorem call42 (args : List AV) (S : St) : evCall T (evFL T) 42 args S = lendC (evFL T 42) S (lendAll S [[0, 0, 0, 0, 0], [0, 0]] args) := evCall0 fn42 rfl rfl args S
theorem callz42 (args : List AV) (S : St) : evCallFz T (evFL T) 42 args S = lendZ (evFL T 42) S [[0, 0, 0, 0, 0], [1]] (lendAll S [[0, 0, 0, 0, 0], [0, 0]] args) := evCallFz0 fn42 rfl rfl args S
attribute [go_sem] call42 callz42
theorem e42 (a0 : Session) (a1 : Evt) (r : (Session × (List Int))) (h : m42 a0 a1 = some r) : evFL T 42 [.agg [.int .i64 a0.state, .int .i64 a0.hold, .int .i64 a0.left, .int .i64 a0.quiet, .int .i64 a0.ups], .agg [.int .i64 a1.kind, .int .i64 a1.n]] [] = some (.tup [.agg [.int .i64 r.1.state, .int .i64 r.1.hold, .int .i64 r.1.left, .int .i64 r.1.quiet, .int .i64 r.1.ups], .sl 0 0 r.2.length], [some ⟨.arr, 1, r.2.map encInt⟩]) := by
  unfold m42 at h
  rw [evFL_at fn42 (Nat.le_of_ble_eq_true rfl) rfl (.inr rfl)]
  try simp -implicitDefEqProofs only [go_sem, Nat.reduceLT, Nat.reduceAdd, Nat.reduceSub, Nat.reduceMul, Nat.reduceEqDiff, Nat.reduceBEq, Nat.reduceLeDiff, Int.reduceToNat, Int.reduceLT, Int.reduceLE, Int.reduceEq, reduceCtorEq, ↓reduceIte, i42, c42]
  cases b1 : (eqI a1.kind 10 : Bool)
  · replace h := br_f b1 h
    obtain ⟨v11, q9, h⟩ := bnd_some h
    have w10 := e42_1 (leI 2 a0.state) a0 a1 (⟨0, 0, 0, 0, 0⟩ : Session) v11 q9
    simp only [X42_1] at w10
    try simp -implicitDefEqProofs only [go_sem, Nat.reduceLT, Nat.reduceAdd, Nat.reduceSub, Nat.reduceMul, Nat.reduceEqDiff, Nat.reduceBEq, Nat.reduceLeDiff, Int.reduceToNat, Int.reduceLT, Int.reduceLE, Int.reduceEq, reduceCtorEq, ↓reduceIte] at w10
    try simp -implicitDefEqProofs only [go_sem, Nat.reduceLT, Nat.reduceAdd, Nat.reduceSub, Nat.reduceMul, Nat.reduceEqDiff, Nat.reduceBEq, Nat.reduceLeDiff, Int.reduceToNat, Int.reduceLT, Int.reduceLE, Int.reduceEq, reduceCtorEq, ↓reduceIte, i42, c42, b1, w10]
    cases b12 : (v11 : Bool)
    · replace h := br_f b12 h
      obtain ⟨v21, q19, h⟩ := bnd_some h
      have w20 := e42_2 (leI 2 a0.state) a0 a1 (⟨0, 0, 0, 0, 0⟩ : Session) v21 q19
      simp only [X42_2] at w20
      try simp -implicitDefEqProofs only [go_sem, Nat.reduceLT, Nat.reduceAdd, Nat.reduceSub, Nat.reduceMul, Nat.reduceEqDiff, Nat.reduceBEq, Nat.reduceLeDiff, Int.reduceToNat, Int.reduceLT, Int.reduceLE, Int.reduceEq, reduceCtorEq, ↓reduceIte] at w20
      try simp -implicitDefEqProofs only [go_sem, Nat.reduceLT, Nat.reduceAdd, Nat.reduceSub, Nat.reduceMul, Nat.reduceEqDiff, Nat.reduceBEq, Nat.reduceLeDiff, Int.reduceToNat, Int.reduceLT, Int.reduceLE, Int.reduceEq, reduceCtorEq, ↓reduceIte, i42, c42, b1, w10, b12, w20]
      cases b22 : (v21 : Bool)
      · replace h := br_f b22 h
        obtain ⟨v31, q29, h⟩ := bnd_some h
        have w30 := e42_3 (leI 2 a0.state) a0 a1 (⟨0, 0, 0, 0, 0⟩ : Session) v31 q29
        simp only [X42_3] at w30
        try simp -implicitDefEqProofs only [go_sem, Nat.reduceLT, Nat.reduceAdd, Nat.reduceSub, Nat.reduceMul, Nat.reduceEqDiff, Nat.reduceBEq, Nat.reduceLeDiff, Int.reduceToNat, Int.reduceLT, Int.reduceLE, Int.reduceEq, reduceCtorEq, ↓reduceIte] at w30
        try simp -implicitDefEqProofs only [go_sem, Nat.reduceLT, Nat.reduceAdd, Nat.reduceSub, Nat.reduceMul, Nat.reduceEqDiff, Nat.reduceBEq, Nat.reduceLeDiff, Int.reduceToNat, Int.reduceLT, Int.reduceLE, Int.reduceEq, reduceCtorEq, ↓reduceIte, i42, c42, b1, w10, b12, w20, b22, w30]
        cases b32 : (v31 : Bool)
        · replace h := br_f b32 h
          obtain ⟨v41, q39, h⟩ := bnd_some h
          have w40 := e42_4 (leI 2 a0.state) a0 a1 (⟨0, 0, 0, 0, 0⟩ : Session) v41 q39
          simp only [X42_4] at w40
          try simp -implicitDefEqProofs only [go_sem, Nat.reduceLT, Nat.reduceAdd, Nat.reduceSub, Nat.reduceMul, Nat.reduceEqDiff, Nat.reduceBEq, Nat.reduceLeDiff, Int.reduceToNat, Int.reduceLT, Int.reduceLE, Int.reduceEq, reduceCtorEq, ↓reduceIte] at w40
          try simp -implicitDefEqProofs only [go_sem, Nat.reduceLT, Nat.reduceAdd, Nat.reduceSub, Nat.reduceMul, Nat.reduceEqDiff, Nat.reduceBEq, Nat.reduceLeDiff, Int.reduceToNat, Int.reduceLT, Int.reduceLE, Int.reduceEq, reduceCtorEq, ↓reduceIte, i42, c42, b1, w10, b12, w20, b22, w30, b32, w40]
          cases b42 : (v41 : Bool)
          · replace h := br_f b42 h
            obtain ⟨v51, q49, h⟩ := bnd_some h
            have w50 := e42_5 (leI 2 a0.state) a0 a1 (⟨0, 0, 0, 0, 0⟩ : Session) v51 q49
            simp only [X42_5] at w50
            try simp -implicitDefEqProofs only [go_sem, Nat.reduceLT, Nat.reduceAdd, Nat.reduceSub, Nat.reduceMul, Nat.reduceEqDiff, Nat.reduceBEq, Nat.reduceLeDiff, Int.reduceToNat, Int.reduceLT, Int.reduceLE, Int.reduceEq, reduceCtorEq, ↓reduceIte] at w50
            try simp -implicitDefEqProofs only [go_sem, Nat.reduceLT, Nat.reduceAdd, Nat.reduceSub, Nat.reduceMul, Nat.reduceEqDiff, Nat.reduceBEq, Nat.reduceLeDiff, Int.reduceToNat, Int.reduceLT, Int.reduceLE, Int.reduceEq, reduceCtorEq, ↓reduceIte, i42, c42, b1, w10, b12, w20, b22, w30, b32, w40, b42, w50]
            cases b52 : (v51 : Bool)
            · replace h := br_f b52 h
              try simp -implicitDefEqProofs only [go_sem, Nat.reduceLT, Nat.reduceAdd, Nat.reduceSub, Nat.reduceMul, Nat.reduceEqDiff, Nat.reduceBEq, Nat.reduceLeDiff, Int.reduceToNat, Int.reduceLT, Int.reduceLE, Int.reduceEq, reduceCtorEq, ↓reduceIte, i42, c42, b1, w10, b12, w20, b22, w30, b32, w40, b42, w50, b52]
              cases b56 : (leI 2 a0.state : Bool)
              · replace h := br_f b56 h
                cases h
                simp -implicitDefEqProofs only [go_sem, Nat.reduceLT, Nat.reduceAdd, Nat.reduceSub, Nat.reduceMul, Nat.reduceEqDiff, Nat.reduceBEq, Nat.reduceLeDiff, Int.reduceToNat, Int.reduceLT, Int.reduceLE, Int.reduceEq, reduceCtorEq, ↓reduceIte, i42, c42, b1, w10, b12, w20, b22, w30, b32, w40, b42, w50, b52, b56]
              · replace h := br_t b56 h
                obtain ⟨v62, q60, h⟩ := bnd_some h
                have w61 := e42_6 a0 a1 (⟨0, 0, 0, 0, 0⟩ : Session) v62 q60
                simp only [X42_6] at w61
                try simp -implicitDefEqProofs only [go_sem, Nat.reduceLT, Nat.reduceAdd, Nat.reduceSub, Nat.reduceMul, Nat.reduceEqDiff, Nat.reduceBEq, Nat.reduceLeDiff, Int.reduceToNat, Int.reduceLT, Int.reduceLE, Int.reduceEq, reduceCtorEq, ↓reduceIte] at w61
                try simp -implicitDefEqProofs only [go_sem, Nat.reduceLT, Nat.reduceAdd, Nat.reduceSub, Nat.reduceMul, Nat.reduceEqDiff, Nat.reduceBEq, Nat.reduceLeDiff, Int.reduceToNat, Int.reduceLT, Int.reduceLE, Int.reduceEq, reduceCtorEq, ↓reduceIte, i42, c42, b1, w10, b12, w20, b22, w30, b32, w40, b42, w50, b52, b56, w61]
                cases b63 : (v62 : Bool)
                · replace h := br_f b63 h
                  obtain ⟨v75, q73, h⟩ := bnd_some h
                  have w74 := e42_8 a0 a1 (⟨0, 0, 0, 0, 0⟩ : Session) v75 q73
                  simp only [X42_8] at w74
                  try simp -implicitDefEqProofs only [go_sem, Nat.reduceLT, Nat.reduceAdd, Nat.reduceSub, Nat.reduceMul, Nat.reduceEqDiff, Nat.reduceBEq, Nat.reduceLeDiff, Int.reduceToNat, Int.reduceLT, Int.reduceLE, Int.reduceEq, reduceCtorEq, ↓reduceIte] at w74
                  obtain ⟨v84, q82, h⟩ := bnd_some h
                  have w83 := e42_9 v75 a0 a1 (⟨0, 0, 0, 0, 0⟩ : Session) v84 q82
                  simp only [X42_9] at w83
                  try simp -implicitDefEqProofs only [go_sem, Nat.reduceLT, Nat.reduceAdd, Nat.reduceSub, Nat.reduceMul, Nat.reduceEqDiff, Nat.reduceBEq, Nat.reduceLeDiff, Int.reduceToNat, Int.reduceLT, Int.reduceLE, Int.reduceEq, reduceCtorEq, ↓reduceIte] at w83
                  try simp -implicitDefEqProofs only [go_sem, Nat.reduceLT, Nat.reduceAdd, Nat.reduceSub, Nat.reduceMul, Nat.reduceEqDiff, Nat.reduceBEq, Nat.reduceLeDiff, Int.reduceToNat, Int.reduceLT, Int.reduceLE, Int.reduceEq, reduceCtorEq, ↓reduceIte, i42, c42, b1, w10, b12, w20, b22, w30, b32, w40, b42, w50, b52, b56, w61, b63, w74, w83]
                  cases b85 : (v84 : Bool)
                  · replace h := br_f b85 h
                    obtain ⟨r98, q96, h⟩ := bnd_some h
                    have w97 := e60 a0 0 r98 q96
                    try simp -implicitDefEqProofs only [go_sem, Nat.reduceLT, Nat.reduceAdd, Nat.reduceSub, Nat.reduceMul, Nat.reduceEqDiff, Nat.reduceBEq, Nat.reduceLeDiff, Int.reduceToNat, Int.reduceLT, Int.reduceLE, Int.reduceEq, reduceCtorEq, ↓reduceIte] at w97
                    cases h
                    simp -implicitDefEqProofs only [go_sem, Nat.reduceLT, Nat.reduceAdd, Nat.reduceSub, Nat.reduceMul, Nat.reduceEqDiff, Nat.reduceBEq, Nat.reduceLeDiff, Int.reduceToNat, Int.reduceLT, Int.reduceLE, Int.reduceEq, reduceCtorEq, ↓reduceIte, i42, c42, b1, w10, b12, w20, b22, w30, b32, w40, b42, w50, b52, b56, w61, b63, w74, w83, b85, w97]
                  · replace h := br_t b85 h
                    obtain ⟨v90, q88, h⟩ := bnd_some h
                    have w89 := e42_11 a0 (⟨0, 0, 0, 0, 0⟩ : Session) v90 q88
                    simp only [X42_11] at w89
                    try simp -implicitDefEqProofs only [go_sem, Nat.reduceLT, Nat.reduceAdd, Nat.reduceSub, Nat.reduceMul, Nat.reduceEqDiff, Nat.reduceBEq, Nat.reduceLeDiff, Int.reduceToNat, Int.reduceLT, Int.reduceLE, Int.reduceEq, reduceCtorEq, ↓reduceIte] at w89
                    obtain ⟨v95, q93, h⟩ := bnd_some h
                    have w94 := e42_12 v90 a0 (⟨0, 0, 0, 0, 0⟩ : Session) v95 q93
                    simp only [X42_12] at w94
                    try simp -implicitDefEqProofs only [go_sem, Nat.reduceLT, Nat.reduceAdd, Nat.reduceSub, Nat.reduceMul, Nat.reduceEqDiff, Nat.reduceBEq, Nat.reduceLeDiff, Int.reduceToNat, Int.reduceLT, Int.reduceLE, Int.reduceEq, reduceCtorEq, ↓reduceIte] at w94
                    cases h
                    simp -implicitDefEqProofs only [go_sem, Nat.reduceLT, Nat.reduceAdd, Nat.reduceSub, Nat.reduceMul, Nat.reduceEqDiff, Nat.reduceBEq, Nat.reduceLeDiff, Int.reduceToNat, Int.reduceLT, Int.reduceLE, Int.reduceEq, reduceCtorEq, ↓reduceIte, i42, c42, b1, w10, b12, w20, b22, w30, b32, w40, b42, w50, b52, b56, w61, b63, w74, w83, b85, w89, w94]
                · replace h := br_t b63 h
                  obtain ⟨v70, q68, h⟩ := bnd_some h
                  have w69 := e42_7 (ltI a1.n a0.hold) (⟨3, a0.hold, a0.left, a0.quiet, a0.ups⟩ : Session) a1 (⟨0, 0, 0, 0, 0⟩ : Session) v70 q68
                  simp only [X42_7] at w69
                  try simp -implicitDefEqProofs only [go_sem, Nat.reduceLT, Nat.reduceAdd, Nat.reduceSub, Nat.reduceMul, Nat.reduceEqDiff, Nat.reduceBEq, Nat.reduceLeDiff, Int.reduceToNat, Int.reduceLT, Int.reduceLE, Int.reduceEq, reduceCtorEq, ↓reduceIte] at w69
                  cases h
                  simp -implicitDefEqProofs only [go_sem, Nat.reduceLT, Nat.reduceAdd, Nat.reduceSub, Nat.reduceMul, Nat.reduceEqDiff, Nat.reduceBEq, Nat.reduceLeDiff, Int.reduceToNat, Int.reduceLT, Int.reduceLE, Int.reduceEq, reduceCtorEq, ↓reduceIte, i42, c42, b1, w10, b12, w20, b22, w30, b32, w40, b42, w50, b52, b56, w61, b63, w69]
            · replace h := br_t b52 h
              obtain ⟨r55, q53, h⟩ := bnd_some h
              have w54 := e60 a0 0 r55 q53
              try simp -implicitDefEqProofs only [go_sem, Nat.reduceLT, Nat.reduceAdd, Nat.reduceSub, Nat.reduceMul, Nat.reduceEqDiff, Nat.reduceBEq, Nat.reduceLeDiff, Int.reduceToNat, Int.reduceLT, Int.reduceLE, Int.reduceEq, reduceCtorEq, ↓reduceIte] at w54
              cases h
              simp -implicitDefEqProofs only [go_sem, Nat.reduceLT, Nat.reduceAdd, Nat.reduceSub, Nat.reduceMul, Nat.reduceEqDiff, Nat.reduceBEq, Nat.reduceLeDiff, Int.reduceToNat, Int.reduceLT, Int.reduceLE, Int.reduceEq, reduceCtorEq, ↓reduceIte, i42, c42, b1, w10, b12, w20, b22, w30, b32, w40, b42, w50, b52, w54]
          · replace h := br_t b42 h
            obtain ⟨r45, q43, h⟩ := bnd_some h
            have w44 := e60 a0 0 r45 q43
            try simp -implicitDefEqProofs only [go_sem, Nat.reduceLT, Nat.reduceAdd, Nat.reduceSub, Nat.reduceMul, Nat.reduceEqDiff, Nat.reduceBEq, Nat.reduceLeDiff, Int.reduceToNat, Int.reduceLT, Int.reduceLE, Int.reduceEq, reduceCtorEq, ↓reduceIte] at w44
            cases h
            simp -implicitDefEqProofs only [go_sem, Nat.reduceLT, Nat.reduceAdd, Nat.reduceSub, Nat.reduceMul, Nat.reduceEqDiff, Nat.reduceBEq, Nat.reduceLeDiff, Int.reduceToNat, Int.reduceLT, Int.reduceLE, Int.reduceEq, reduceCtorEq, ↓reduceIte, i42, c42, b1, w10, b12, w20, b22, w30, b32, w40, b42, w44]
        · replace h := br_t b32 h
          obtain ⟨r35, q33, h⟩ := bnd_some h
          have w34 := e60 a0 1 r35 q33
          try simp -implicitDefEqProofs only [go_sem, Nat.reduceLT, Nat.reduceAdd, Nat.reduceSub, Nat.reduceMul, Nat.reduceEqDiff, Nat.reduceBEq, Nat.reduceLeDiff, Int.reduceToNat, Int.reduceLT, Int.reduceLE, Int.reduceEq, reduceCtorEq, ↓reduceIte] at w34
          cases h
          simp -implicitDefEqProofs only [go_sem, Nat.reduceLT, Nat.reduceAdd, Nat.reduceSub, Nat.reduceMul, Nat.reduceEqDiff, Nat.reduceBEq, Nat.reduceLeDiff, Int.reduceToNat, Int.reduceLT, Int.reduceLE, Int.reduceEq, reduceCtorEq, ↓reduceIte, i42, c42, b1, w10, b12, w20, b22, w30, b32, w34]
      · replace h := br_t b22 h
        obtain ⟨r25, q23, h⟩ := bnd_some h
        have w24 := e60 a0 2 r25 q23
        try simp -implicitDefEqProofs only [go_sem, Nat.reduceLT, Nat.reduceAdd, Nat.reduceSub, Nat.reduceMul, Nat.reduceEqDiff, Nat.reduceBEq, Nat.reduceLeDiff, Int.reduceToNat, Int.reduceLT, Int.reduceLE, Int.reduceEq, reduceCtorEq, ↓reduceIte] at w24
        cases h
        simp -implicitDefEqProofs only [go_sem, Nat.reduceLT, Nat.reduceAdd, Nat.reduceSub, Nat.reduceMul, Nat.reduceEqDiff, Nat.reduceBEq, Nat.reduceLeDiff, Int.reduceToNat, Int.reduceLT, Int.reduceLE, Int.reduceEq, reduceCtorEq, ↓reduceIte, i42, c42, b1, w10, b12, w20, b22, w24]
    · replace h := br_t b12 h
      obtain ⟨r15, q13, h⟩ := bnd_some h
      have w14 := e60 a0 1 r15 q13
      try simp -implicitDefEqProofs only [go_sem, Nat.reduceLT, Nat.reduceAdd, Nat.reduceSub, Nat.reduceMul, Nat.reduceEqDiff, Nat.reduceBEq, Nat.reduceLeDiff, Int.reduceToNat, Int.reduceLT, Int.reduceLE, Int.reduceEq, reduceCtorEq, ↓reduceIte] at w14
      cases h
      simp -implicitDefEqProofs only [go_sem, Nat.reduceLT, Nat.reduceAdd, Nat.reduceSub, Nat.reduceMul, Nat.reduceEqDiff, Nat.reduceBEq, Nat.reduceLeDiff, Int.reduceToNat, Int.reduceLT, Int.reduceLE, Int.reduceEq, reduceCtorEq, ↓reduceIte, i42, c42, b1, w10, b12, w14]
  · replace h := br_t b1 h
    obtain ⟨⟨r4, r5⟩, q2, h⟩ := bnd_some h
    replace h := sel2_some h
    have w3 := e49 a0 (r4, r5) q2
    try simp -implicitDefEqProofs only [go_sem, Nat.reduceLT, Nat.reduceAdd, Nat.reduceSub, Nat.reduceMul, Nat.reduceEqDiff, Nat.reduceBEq, Nat.reduceLeDiff, Int.reduceToNat, Int.reduceLT, Int.reduceLE, Int.reduceEq, reduceCtorEq, ↓reduceIte] at w3
    cases h
    simp -implicitDefEqProofs only [go_sem, Nat.reduceLT, Nat.reduceAdd, Nat.reduceSub, Nat.reduceMul, Nat.reduceEqDiff, Nat.reduceBEq, Nat.reduceLeDiff, Int.reduceToNat, Int.reduceLT, Int.reduceLE, Int.reduceEq, reduceCtorEq, ↓reduceIte, i42, c42, b1, w3]
-- f48 spec.l12Side1
theorem call48 (args : List AV) (S : St) : evCall T (evFL T) 48 args S = lendC (evFL T 48) S (lendAll S [[0]] args) := evCall0 fn48 rfl rfl args S
theorem callz48 (args : List AV) (S : St) : evCallFz T (evFL T) 48 args S = lendZ (evFL T 48) S [[0, 0, 0, 0, 0, 1, 0]] (lendAll S [[0]] args) := evCallFz0 fn48 rfl rfl args S
attribute [go_sem] call48 callz48
theorem e48 (a0 : Int) (r : l12Side) (h : m48 a0 = some r) : evFL T 48 [.int .i64 a0] [] = some (.agg [.int .i64 r.s.state, .int .i64 r.s.hold, .int .i64 r.s.left, .int .i64 r.s.quiet, .int .i64 r.s.ups, .sl 0 0 r.in_.length, .int .i64 r.asks], [some ⟨.arr, 1, r.in_.map encInt⟩]) := by
  unfold m48 at h
  rw [evFL_at fn48 (Nat.le_of_ble_eq_true rfl) rfl (.inr rfl)]
  obtain ⟨⟨r3, r4⟩, q1, h⟩ := bnd_some h
  replace h := sel2_some h
  have w2 := e11 a0 (r3, r4) q1
  try simp -implicitDefEqProofs only [go_sem, Nat.reduceLT, Nat.reduceAdd, Nat.reduceSub, Nat.reduceMul, Nat.reduceEqDiff, Nat.reduceBEq, Nat.reduceLeDiff, Int.reduceToNat, Int.reduceLT, Int.reduceLE, Int.reduceEq, reduceCtorEq, ↓reduceIte] at w2
  obtain ⟨⟨r7, r8⟩, q5, h⟩ := bnd_some h
  replace h := sel2_some h
  have w6 := e42 r3 (⟨1, 0⟩ : Evt) (r7, r8) q5
  try simp -implicitDefEqProofs only [go_sem, Nat.reduceLT, Nat.reduceAdd, Nat.reduceSub, Nat.reduceMul, Nat.reduceEqDiff, Nat.reduceBEq, Nat.reduceLeDiff, Int.reduceToNat, Int.reduceLT, Int.reduceLE, Int.reduceEq, reduceCtorEq, ↓reduceIte] at w6
  obtain ⟨⟨r11, r12⟩, q9, h⟩ := bnd_some h
  replace h := sel2_some h
  have w10 := e42 r7 (⟨3, 0⟩ : Evt) (r11, r12) q9
  try simp -implicitDefEqProofs only [go_sem, Nat.reduceLT, Nat.reduceAdd, Nat.reduceSub, Nat.reduceMul, Nat.reduceEqDiff, Nat.reduceBEq, Nat.reduceLeDiff, Int.reduceToNat, Int.reduceLT, Int.reduceLE, Int.reduceEq, reduceCtorEq, ↓reduceIte] at w10
  cases h
  simp -implicitDefEqProofs only [go_sem, Nat.reduceLT, Nat.reduceAdd, Nat.reduceSub, Nat.reduceMul, Nat.reduceEqDiff, Nat.reduceBEq, Nat.reduceLeDiff, Int.reduceToNat, Int.reduceLT, Int.reduceLE, Int.reduceEq, reduceCtorEq, ↓reduceIte, i48, c48, w2, w6, w10]
-- f50 spec.l12Come
def X50_3 (p17 : Bool) (a0 : l12Side) (p11 : List Int) (p12 : Session) (p13 : Evt) (o : Evt) : Ex × Fr × St :=
  (.normal, frOf 48 (upd (upd (upd anyF 2 (.ptr 1 0 0)) 4 (.ptr 3 0 0)) 7 (.ptr 5 0 0)), [some ⟨.arr, 1, a0.in_.map encInt⟩, some ⟨.box, 7, [[.int .i64 a0.s.state, .int .i64 a0.s.hold, .int .i64 a0.s.left, .int .i64 a0.s.quiet, .int .i64 a0.s.ups, .sl 2 0 p11.length, .int .i64 a0.asks]]⟩, some ⟨.arr, 1, p11.map encInt⟩, some ⟨.box, 7, [[.int .i64 p12.state, .int .i64 p12.hold, .int .i64 p12.left, .int .i64 p12.quiet, .int .i64 p12.ups, .sl 4 0 0, .int .i64 0]]⟩, some ⟨.arr, 1, []⟩, some ⟨.box, 2, [[.int .i64 o.kind, .int .i64 o.n]]⟩])
theorem e50_3 (p17 : Bool) (a0 : l12Side) (p11 : List Int) (p12 : Session) (p13 : Evt) (o : Evt) (h : m50_3 p17 p13 = some o) : evCL T 1 k50_3 (frOf 48 (upd (upd (upd (upd anyF 2 (.ptr 1 0 0)) 4 (.ptr 3 0 0)) 7 (.ptr 5 0 0)) 34 (.bool p17))) [some ⟨.arr, 1, a0.in_.map encInt⟩, some ⟨.box, 7, [[.int .i64 a0.s.state, .int .i64 a0.s.hold, .int .i64 a0.s.left, .int .i64 a0.s.quiet, .int .i64 a0.s.ups, .sl 2 0 p11.length, .int .i64 a0.asks]]⟩, some ⟨.arr, 1, p11.map encInt⟩, some ⟨.box, 7, [[.int .i64 p12.state, .int .i64 p12.hold, .int .i64 p12.left, .int .i64 p12.quiet, .int .i64 p12.ups, .sl 4 0 0, .int .i64 0]]⟩, some ⟨.arr, 1, []⟩, some ⟨.box, 2, [[.int .i64 p13.kind, .int .i64 p13.n]]⟩] = some (X50_3 p17 a0 p11 p12 p13 o) := by
  unfold m50_3 at h
  try simp -implicitDefEqProofs only [go_sem, Nat.reduceLT, Nat.reduceAdd, Nat.reduceSub, Nat.reduceMul, Nat.reduceEqDiff, Nat.reduceBEq, Nat.reduceLeDiff, Int.reduceToNat, Int.reduceLT, Int.reduceLE, Int.reduceEq, reduceCtorEq, ↓reduceIte, X50_3, k50_3]
  cases b18 : (p17 : Bool)
  · replace h := br_f b18 h
    cases h
    simp -implicitDefEqProofs only [go_sem, Nat.reduceLT, Nat.reduceAdd, Nat.reduceSub, Nat.reduceMul, Nat.reduceEqDiff, Nat.reduceBEq, Nat.reduceLeDiff, Int.reduceToNat, Int.reduceLT, Int.reduceLE, Int.reduceEq, reduceCtorEq, ↓reduceIte, X50_3, k50_3, b18]
  · replace h := br_t b18 h
    cases h
    simp -implicitDefEqProofs only [go_sem, Nat.reduceLT, Nat.reduceAdd, Nat.reduceSub, Nat.reduceMul, Nat.reduceEqDiff, Nat.reduceBEq, Nat.reduceLeDiff, Int.reduceToNat, Int.reduceLT, Int.reduceLE, Int.reduceEq, reduceCtorEq, ↓reduceIte, X50_3, k50_3, b18]
def X50_2 (x2 : Int) (p15 : Bool) (a0 : l12Side) (p11 : List Int) (p12 : Session) (p13 : Evt) (o : Evt) : Ex × Fr × St :=
  (.normal, frOf 48 (upd (upd (upd anyF 2 (.ptr 1 0 0)) 4 (.ptr 3 0 0)) 7 (.ptr 5 0 0)), [some ⟨.arr, 1, a0.in_.map encInt⟩, some ⟨.box, 7, [[.int .i64 a0.s.state, .int .i64 a0.s.hold, .int .i64 a0.s.left, .int .i64 a0.s.quiet, .int .i64 a0.s.ups, .sl 2 0 p11.length, .int .i64 a0.asks]]⟩, some ⟨.arr, 1, p11.map encInt⟩, some ⟨.box, 7, [[.int .i64 p12.state, .int .i64 p12.hold, .int .i64 p12.left, .int .i64 p12.quiet, .int .i64 p12.ups, .sl 4 0 0, .int .i64 0]]⟩, some ⟨.arr, 1, []⟩, some ⟨.box, 2, [[.int .i64 o.kind, .int .i64 o.n]]⟩])
theorem e50_2 (x2 : Int) (p15 : Bool) (a0 : l12Side) (p11 : List Int) (p12 : Session) (p13 : Evt) (o : Evt) (h : m50_2 x2 p15 p13 = some o) : evCL T 1 k50_2 (frOf 48 (upd (upd (upd (upd (upd anyF 2 (.ptr 1 0 0)) 4 (.ptr 3 0 0)) 7 (.ptr 5 0 0)) 26 (.int .i64 x2)) 31 (.bool p15))) [some ⟨.arr, 1, a0.in_.map encInt⟩, some ⟨.box, 7, [[.int .i64 a0.s.state, .int .i64 a0.s.hold, .int .i64 a0.s.left, .int .i64 a0.s.quiet, .int .i64 a0.s.ups, .sl 2 0 p11.length, .int .i64 a0.asks]]⟩, some ⟨.arr, 1, p11.map encInt⟩, some ⟨.box, 7, [[.int .i64 p12.state, .int .i64 p12.hold, .int .i64 p12.left, .int .i64 p12.quiet, .int .i64 p12.ups, .sl 4 0 0, .int .i64 0]]⟩, some ⟨.arr, 1, []⟩, some ⟨.box, 2, [[.int .i64 p13.kind, .int .i64 p13.n]]⟩] = some (X50_2 x2 p15 a0 p11 p12 p13 o) := by
  unfold m50_2 at h
  try simp -implicitDefEqProofs only [go_sem, Nat.reduceLT, Nat.reduceAdd, Nat.reduceSub, Nat.reduceMul, Nat.reduceEqDiff, Nat.reduceBEq, Nat.reduceLeDiff, Int.reduceToNat, Int.reduceLT, Int.reduceLE, Int.reduceEq, reduceCtorEq, ↓reduceIte, X50_2, k50_2]
  cases b16 : (p15 : Bool)
  · replace h := br_f b16 h
    obtain ⟨v21, q19, h⟩ := bnd_some h
    have w20 := e50_3 (eqI x2 2) a0 p11 p12 p13 v21 q19
    simp only [X50_3] at w20
    try simp -implicitDefEqProofs only [go_sem, Nat.reduceLT, Nat.reduceAdd, Nat.reduceSub, Nat.reduceMul, Nat.reduceEqDiff, Nat.reduceBEq, Nat.reduceLeDiff, Int.reduceToNat, Int.reduceLT, Int.reduceLE, Int.reduceEq, reduceCtorEq, ↓reduceIte] at w20
    cases h
    simp -implicitDefEqProofs only [go_sem, Nat.reduceLT, Nat.reduceAdd, Nat.reduceSub, Nat.reduceMul, Nat.reduceEqDiff, Nat.reduceBEq, Nat.reduceLeDiff, Int.reduceToNat, Int.reduceLT, Int.reduceLE, Int.reduceEq, reduceCtorEq, ↓reduceIte, X50_2, k50_2, b16, w20]
  · replace h := br_t b16 h
    cases h
    simp -implicitDefEqProofs only [go_sem, Nat.reduceLT, Nat.reduceAdd, Nat.reduceSub, Nat.reduceMul, Nat.reduceEqDiff, Nat.reduceBEq, Nat.reduceLeDiff, Int.reduceToNat, Int.reduceLT, Int.reduceLE, Int.reduceEq, reduceCtorEq, ↓reduceIte, X50_2, k50_2, b16]
def X50_1 (a1 : Int) (x2 : Int) (p10 : Bool) (a0 : l12Side) (p11 : List Int) (p12 : Session) (p13 : Evt) (o : Evt) : Ex × Fr × St :=
  (.normal, frOf 48 (upd (upd (upd anyF 2 (.ptr 1 0 0)) 4 (.ptr 3 0 0)) 7 (.ptr 5 0 0)), [some ⟨.arr, 1, a0.in_.map encInt⟩, some ⟨.box, 7, [[.int .i64 a0.s.state, .int .i64 a0.s.hold, .int .i64 a0.s.left, .int .i64 a0.s.quiet, .int .i64 a0.s.ups, .sl 2 0 p11.length, .int .i64 a0.asks]]⟩, some ⟨.arr, 1, p11.map encInt⟩, some ⟨.box, 7, [[.int .i64 p12.state, .int .i64 p12.hold, .int .i64 p12.left, .int .i64 p12.quiet, .int .i64 p12.ups, .sl 4 0 0, .int .i64 0]]⟩, some ⟨.arr, 1, []⟩, some ⟨.box, 2, [[.int .i64 o.kind, .int .i64 o.n]]⟩])
theorem e50_1 (a1 : Int) (x2 : Int) (p10 : Bool) (a0 : l12Side) (p11 : List Int) (p12 : Session) (p13 : Evt) (o : Evt) (h : m50_1 a1 x2 p10 p13 = some o) : evCL T 1 k50_1 (frOf 48 (upd (upd (upd (upd (upd (upd anyF 1 (.int .i64 a1)) 2 (.ptr 1 0 0)) 4 (.ptr 3 0 0)) 7 (.ptr 5 0 0)) 26 (.int .i64 x2)) 27 (.bool p10))) [some ⟨.arr, 1, a0.in_.map encInt⟩, some ⟨.box, 7, [[.int .i64 a0.s.state, .int .i64 a0.s.hold, .int .i64 a0.s.left, .int .i64 a0.s.quiet, .int .i64 a0.s.ups, .sl 2 0 p11.length, .int .i64 a0.asks]]⟩, some ⟨.arr, 1, p11.map encInt⟩, some ⟨.box, 7, [[.int .i64 p12.state, .int .i64 p12.hold, .int .i64 p12.left, .int .i64 p12.quiet, .int .i64 p12.ups, .sl 4 0 0, .int .i64 0]]⟩, some ⟨.arr, 1, []⟩, some ⟨.box, 2, [[.int .i64 p13.kind, .int .i64 p13.n]]⟩] = some (X50_1 a1 x2 p10 a0 p11 p12 p13 o) := by
  unfold m50_1 at h
  try simp -implicitDefEqProofs only [go_sem, Nat.reduceLT, Nat.reduceAdd, Nat.reduceSub, Nat.reduceMul, Nat.reduceEqDiff, Nat.reduceBEq, Nat.reduceLeDiff, Int.reduceToNat, Int.reduceLT, Int.reduceLE, Int.reduceEq, reduceCtorEq, ↓reduceIte, X50_1, k50_1]
  cases b14 : (p10 : Bool)
  · replace h := br_f b14 h
    obtain ⟨v24, q22, h⟩ := bnd_some h
    have w23 := e50_2 x2 (eqI x2 4) a0 p11 p12 p13 v24 q22
    simp only [X50_2] at w23
    try simp -implicitDefEqProofs only [go_sem, Nat.reduceLT, Nat.reduceAdd, Nat.reduceSub, Nat.reduceMul, Nat.reduceEqDiff, Nat.reduceBEq, Nat.reduceLeDiff, Int.reduceToNat, Int.reduceLT, Int.reduceLE, Int.reduceEq, reduceCtorEq, ↓reduceIte] at w23
    cases h
    simp -implicitDefEqProofs only [go_sem, Nat.reduceLT, Nat.reduceAdd, Nat.reduceSub, Nat.reduceMul, Nat.reduceEqDiff, Nat.reduceBEq, Nat.reduceLeDiff, Int.reduceToNat, Int.reduceLT, Int.reduceLE, Int.reduceEq, reduceCtorEq, ↓reduceIte, X50_1, k50_1, b14, w23]
  · replace h := br_t b14 h
    cases h
    simp -implicitDefEqProofs only [go_sem, Nat.reduceLT, Nat.reduceAdd, Nat.reduceSub, Nat.reduceMul, Nat.reduceEqDiff, Nat.reduceBEq, Nat.reduceLeDiff, Int.reduceToNat, Int.reduceLT, Int.reduceLE, Int.reduceEq, reduceCtorEq, ↓reduceIte, X50_1, k50_1, b14]
theorem call50 (args : List AV) (S : St) : evCall T (evFL T) 50 args S = c3A true (evFL T 50) (rawAll S [[0, 0, 0, 0, 0, 1, 0], [0]] args) := evCall3_a fn50 rfl args S
attribute [go_sem] call50
theorem e50 (a0 : l12Side) (a1 : Int) (r : (Session × List Int × List Int)) (h : m50 a0 a1 = some r) : evFL T 50 [.agg [.int .i64 a0.s.state, .int .i64 a0.s.hold, .int .i64 a0.s.left, .int .i64 a0.s.quiet, .int .i64 a0.s.ups, .sl 0 0 a0.in_.length, .int .i64 a0.asks], .int .i64 a1] [some ⟨.arr, 1, a0.in_.map encInt⟩] = some (.tup [.agg [.int .i64 r.1.state, .int .i64 r.1.hold, .int .i64 r.1.left, .int .i64 r.1.quiet, .int .i64 r.1.ups, .sl 2 0 r.2.1.length, .int .i64 a0.asks], .sl 3 0 r.2.2.length], [none, some ⟨.box, 7, [[.int .i64 r.1.state, .int .i64 r.1.hold, .int .i64 r.1.left, .int .i64 r.1.quiet, .int .i64 r.1.ups, .sl 2 0 r.2.1.length, .int .i64 a0.asks]]⟩, some ⟨.arr, 1, r.2.1.map encInt⟩, some ⟨.arr, 1, r.2.2.map encInt⟩]) := by
  unfold m50 at h
  rw [evFL_at fn50 (Nat.le_of_ble_eq_true rfl) rfl (.inl rfl)]
  try simp -implicitDefEqProofs only [go_sem, Nat.reduceLT, Nat.reduceAdd, Nat.reduceSub, Nat.reduceMul, Nat.reduceEqDiff, Nat.reduceBEq, Nat.reduceLeDiff, Int.reduceToNat, Int.reduceLT, Int.reduceLE, Int.reduceEq, reduceCtorEq, ↓reduceIte, i50, c50]
  cases b1 : (eqI (↑a0.in_.length : Int) 0 : Bool)
  · replace h := br_f b1 h
    obtain ⟨x2, q3, h⟩ := bnd_some h
    obtain ⟨g4, g5, g6⟩ := idx_row encInt q3
    try simp -implicitDefEqProofs only [go_sem, Nat.reduceLT, Nat.reduceAdd, Nat.reduceSub, Nat.reduceMul, Nat.reduceEqDiff, Nat.reduceBEq, Nat.reduceLeDiff, Int.reduceToNat, Int.reduceLT, Int.reduceLE, Int.reduceEq, reduceCtorEq, ↓reduceIte] at g5
    try simp -implicitDefEqProofs only [go_sem, Nat.reduceLT, Nat.reduceAdd, Nat.reduceSub, Nat.reduceMul, Nat.reduceEqDiff, Nat.reduceBEq, Nat.reduceLeDiff, Int.reduceToNat, Int.reduceLT, Int.reduceLE, Int.reduceEq, reduceCtorEq, ↓reduceIte] at g6
    obtain ⟨g7, h⟩ := ck_some h
    try simp -implicitDefEqProofs only [go_sem, Nat.reduceLT, Nat.reduceAdd, Nat.reduceSub, Nat.reduceMul, Nat.reduceEqDiff, Nat.reduceBEq, Nat.reduceLeDiff, Int.reduceToNat, Int.reduceLT, Int.reduceLE, Int.reduceEq, reduceCtorEq, ↓reduceIte] at g7
    have g8 : 1 + (a0.in_.length - 1) ≤ a0.in_.length := by (try simp only [List.length_take, List.length_drop, List.length_append, List.length_set, List.length_cons, List.length_nil]); omega
    obtain ⟨g9, h⟩ := ck_some h
    try simp -implicitDefEqProofs only [go_sem, Nat.reduceLT, Nat.reduceAdd, Nat.reduceSub, Nat.reduceMul, Nat.reduceEqDiff, Nat.reduceBEq, Nat.reduceLeDiff, Int.reduceToNat, Int.reduceLT, Int.reduceLE, Int.reduceEq, reduceCtorEq, ↓reduceIte] at g9
    obtain ⟨v27, q25, h⟩ := bnd_some h
    have w26 := e50_1 a1 x2 (eqI x2 1) a0 ((a0.in_.drop 1).take (a0.in_.length - 1)) (⟨0, 0, 0, 0, 0⟩ : Session) (⟨9, 0⟩ : Evt) v27 q25
    simp only [X50_1] at w26
    try simp -implicitDefEqProofs only [go_sem, Nat.reduceLT, Nat.reduceAdd, Nat.reduceSub, Nat.reduceMul, Nat.reduceEqDiff, Nat.reduceBEq, Nat.reduceLeDiff, Int.reduceToNat, Int.reduceLT, Int.reduceLE, Int.reduceEq, reduceCtorEq, ↓reduceIte, g8] at w26
    obtain ⟨⟨r30, r31⟩, q28, h⟩ := bnd_some h
    replace h := sel2_some h
    have w29 := e42 a0.s v27 (r30, r31) q28
    try simp -implicitDefEqProofs only [go_sem, Nat.reduceLT, Nat.reduceAdd, Nat.reduceSub, Nat.reduceMul, Nat.reduceEqDiff, Nat.reduceBEq, Nat.reduceLeDiff, Int.reduceToNat, Int.reduceLT, Int.reduceLE, Int.reduceEq, reduceCtorEq, ↓reduceIte, g8] at w29
    cases h
    simp -implicitDefEqProofs only [go_sem, Nat.reduceLT, Nat.reduceAdd, Nat.reduceSub, Nat.reduceMul, Nat.reduceEqDiff, Nat.reduceBEq, Nat.reduceLeDiff, Int.reduceToNat, Int.reduceLT, Int.reduceLE, Int.reduceEq, reduceCtorEq, ↓reduceIte, i50, c50, b1, g4, g5, g6, g7, g8, g9, w26, w29]
  · replace h := br_t b1 h
    cases h
    simp -implicitDefEqProofs only [go_sem, Nat.reduceLT, Nat.reduceAdd, Nat.reduceSub, Nat.reduceMul, Nat.reduceEqDiff, Nat.reduceBEq, Nat.reduceLeDiff, Int.reduceToNat, Int.reduceLT, Int.reduceLE, Int.reduceEq, reduceCtorEq, ↓reduceIte, i50, c50, b1]
-- f31 spec.PlayPair
def X31_1 (a0 : Int) (a1 : Int) (a2 : (List Int)) (p1 : Session) (p2 : Session) (o : Bool) : Ex × Fr × St :=
  (.normal, frOf 94 (upd (upd (upd (upd (upd (upd anyF 0 (.int .i64 a0)) 1 (.int .i64 a1)) 2 (.ts .imm 1 (a2.map encInt))) 6 (.ptr 0 0 0)) 7 (.ptr 1 0 0)) 27 (.bool o)), [some ⟨.box, 5, [[.int .i64 p1.state, .int .i64 p1.hold, .int .i64 p1.left, .int .i64 p1.quiet, .int .i64 p1.ups]]⟩, some ⟨.box, 5, [[.int .i64 p2.state, .int .i64 p2.hold, .int .i64 p2.left, .int .i64 p2.quiet, .int .i64 p2.ups]]⟩])
theorem e31_1 (a0 : Int) (a1 : Int) (a2 : (List Int)) (p1 : Session) (p2 : Session) (o : Bool) (h : m31_1 a0 a1 a2 = some o) : evCL T 0 k31_1 (frOf 94 (upd (upd (upd (upd (upd anyF 0 (.int .i64 a0)) 1 (.int .i64 a1)) 2 (.ts .imm 1 (a2.map encInt))) 6 (.ptr 0 0 0)) 7 (.ptr 1 0 0))) [some ⟨.box, 5, [[.int .i64 p1.state, .int .i64 p1.hold, .int .i64 p1.left, .int .i64 p1.quiet, .int .i64 p1.ups]]⟩, some ⟨.box, 5, [[.int .i64 p2.state, .int .i64 p2.hold, .int .i64 p2.left, .int .i64 p2.quiet, .int .i64 p2.ups]]⟩] = some (X31_1 a0 a1 a2 p1 p2 o) := by
  unfold m31_1 at h
  obtain ⟨r5, q3, h⟩ := bnd_some h
  have w4 := e39 a0 3 90 r5 q3
  try simp -implicitDefEqProofs only [go_sem, Nat.reduceLT, Nat.reduceAdd, Nat.reduceSub, Nat.reduceMul, Nat.reduceEqDiff, Nat.reduceBEq, Nat.reduceLeDiff, Int.reduceToNat, Int.reduceLT, Int.reduceLE, Int.reduceEq, reduceCtorEq, ↓reduceIte] at w4
  try simp -implicitDefEqProofs only [go_sem, Nat.reduceLT, Nat.reduceAdd, Nat.reduceSub, Nat.reduceMul, Nat.reduceEqDiff, Nat.reduceBEq, Nat.reduceLeDiff, Int.reduceToNat, Int.reduceLT, Int.reduceLE, Int.reduceEq, reduceCtorEq, ↓reduceIte, X31_1, k31_1, w4]
  cases b6 : (r5 : Bool)
  · replace h := br_f b6 h
    cases h
    simp -implicitDefEqProofs only [go_sem, Nat.reduceLT, Nat.reduceAdd, Nat.reduceSub, Nat.reduceMul, Nat.reduceEqDiff, Nat.reduceBEq, Nat.reduceLeDiff, Int.reduceToNat, Int.reduceLT, Int.reduceLE, Int.reduceEq, reduceCtorEq, ↓reduceIte, X31_1, k31_1, w4, b6]
  · replace h := br_t b6 h
    obtain ⟨r9, q7, h⟩ := bnd_some h
    have w8 := e39 a1 3 90 r9 q7
    try simp -implicitDefEqProofs only [go_sem, Nat.reduceLT, Nat.reduceAdd, Nat.reduceSub, Nat.reduceMul, Nat.reduceEqDiff, Nat.reduceBEq, Nat.reduceLeDiff, Int.reduceToNat, Int.reduceLT, Int.reduceLE, Int.reduceEq, reduceCtorEq, ↓reduceIte] at w8
    try simp -implicitDefEqProofs only [go_sem, Nat.reduceLT, Nat.reduceAdd, Nat.reduceSub, Nat.reduceMul, Nat.reduceEqDiff, Nat.reduceBEq, Nat.reduceLeDiff, Int.reduceToNat, Int.reduceLT, Int.reduceLE, Int.reduceEq, reduceCtorEq, ↓reduceIte, X31_1, k31_1, w4, b6, w8]
    cases b10 : (r9 : Bool)
    · replace h := br_f b10 h
      cases h
      simp -implicitDefEqProofs only [go_sem, Nat.reduceLT, Nat.reduceAdd, Nat.reduceSub, Nat.reduceMul, Nat.reduceEqDiff, Nat.reduceBEq, Nat.reduceLeDiff, Int.reduceToNat, Int.reduceLT, Int.reduceLE, Int.reduceEq, reduceCtorEq, ↓reduceIte, X31_1, k31_1, w4, b6, w8, b10]
    · replace h := br_t b10 h
      cases h
      simp -implicitDefEqProofs only [go_sem, Nat.reduceLT, Nat.reduceAdd, Nat.reduceSub, Nat.reduceMul, Nat.reduceEqDiff, Nat.reduceBEq, Nat.reduceLeDiff, Int.reduceToNat, Int.reduceLT, Int.reduceLE, Int.reduceEq, reduceCtorEq, ↓reduceIte, X31_1, k31_1, w4, b6, w8, b10]
def X31_6 (a0 : Int) (a1 : Int) (a2 : (List Int)) (p21 : Int) (s77 : Int) (x83 : Int) (p98 : Bool) (p22 : Session) (p23 : Session) (s78 : Session) (r17 : l12Side) (s79 : List Int) (s80 : Session) (r20 : l12Side) (s81 : List Int) (o : ((Session × List Int × Session × List Int × List Int × List Int) ⊕ (Session × Session))) : Ex × Fr × St :=
  match o with
  | .inl o => (.normal, frOf 94 (upd (upd (upd (upd (upd (upd (upd (upd (upd (upd (upd anyF 0 (.int .i64 a0)) 1 (.int .i64 a1)) 6 (.ptr 0 0 0)) 7 (.ptr 1 0 0)) 9 (.ptr 2 0 0)) 10 (.ptr 4 0 0)) 13 (.sl 6 0 o.2.2.2.2.1.length)) 14 (.sl 7 0 o.2.2.2.2.2.length)) 38 (.ts .imm 1 (a2.map encInt))) 39 (.int .i64 p21)) 40 (.int .i64 s77)), [some ⟨.box, 5, [[.int .i64 p22.state, .int .i64 p22.hold, .int .i64 p22.left, .int .i64 p22.quiet, .int .i64 p22.ups]]⟩, some ⟨.box, 5, [[.int .i64 p23.state, .int .i64 p23.hold, .int .i64 p23.left, .int .i64 p23.quiet, .int .i64 p23.ups]]⟩, some ⟨.box, 7, [[.int .i64 o.1.state, .int .i64 o.1.hold, .int .i64 o.1.left, .int .i64 o.1.quiet, .int .i64 o.1.ups, .sl 3 0 o.2.1.length, .int .i64 r17.asks]]⟩, some ⟨.arr, 1, o.2.1.map encInt⟩, some ⟨.box, 7, [[.int .i64 o.2.2.1.state, .int .i64 o.2.2.1.hold, .int .i64 o.2.2.1.left, .int .i64 o.2.2.1.quiet, .int .i64 o.2.2.1.ups, .sl 5 0 o.2.2.2.1.length, .int .i64 r20.asks]]⟩, some ⟨.arr, 1, o.2.2.2.1.map encInt⟩, some ⟨.arr, 1, o.2.2.2.2.1.map encInt⟩, some ⟨.arr, 1, o.2.2.2.2.2.map encInt⟩])
  | .inr o => (.ret, frOf 94 (upd (upd (upd anyF 6 (.ptr 0 0 0)) 7 (.ptr 1 0 0)) 8 (.bool false)), [some ⟨.box, 5, [[.int .i64 o.1.state, .int .i64 o.1.hold, .int .i64 o.1.left, .int .i64 o.1.quiet, .int .i64 o.1.ups]]⟩, some ⟨.box, 5, [[.int .i64 o.2.state, .int .i64 o.2.hold, .int .i64 o.2.left, .int .i64 o.2.quiet, .int .i64 o.2.ups]]⟩])
theorem e31_6 (a0 : Int) (a1 : Int) (a2 : (List Int)) (p21 : Int) (s77 : Int) (x83 : Int) (p98 : Bool) (p22 : Session) (p23 : Session) (s78 : Session) (r17 : l12Side) (s79 : List Int) (s80 : Session) (r20 : l12Side) (s81 : List Int) (o : ((Session × List Int × Session × List Int × List Int × List Int) ⊕ (Session × Session))) (h : m31_6 a0 a1 x83 p98 s78 r17 s79 s80 r20 s81 = some o) : evCL T 0 k31_6 (frOf 94 (upd (upd (upd (upd (upd (upd (upd (upd (upd (upd (upd (upd (upd anyF 0 (.int .i64 a0)) 1 (.int .i64 a1)) 6 (.ptr 0 0 0)) 7 (.ptr 1 0 0)) 9 (.ptr 2 0 0)) 10 (.ptr 4 0 0)) 13 (.sl 6 0 0)) 14 (.sl 7 0 0)) 38 (.ts .imm 1 (a2.map encInt))) 39 (.int .i64 p21)) 40 (.int .i64 s77)) 44 (.int .i64 x83)) 63 (.bool p98))) [some ⟨.box, 5, [[.int .i64 p22.state, .int .i64 p22.hold, .int .i64 p22.left, .int .i64 p22.quiet, .int .i64 p22.ups]]⟩, some ⟨.box, 5, [[.int .i64 p23.state, .int .i64 p23.hold, .int .i64 p23.left, .int .i64 p23.quiet, .int .i64 p23.ups]]⟩, some ⟨.box, 7, [[.int .i64 s78.state, .int .i64 s78.hold, .int .i64 s78.left, .int .i64 s78.quiet, .int .i64 s78.ups, .sl 3 0 s79.length, .int .i64 r17.asks]]⟩, some ⟨.arr, 1, s79.map encInt⟩, some ⟨.box, 7, [[.int .i64 s80.state, .int .i64 s80.hold, .int .i64 s80.left, .int .i64 s80.quiet, .int .i64 s80.ups, .sl 5 0 s81.length, .int .i64 r20.asks]]⟩, some ⟨.arr, 1, s81.map encInt⟩, some ⟨.arr, 1, []⟩, some ⟨.arr, 1, []⟩] = some (X31_6 a0 a1 a2 p21 s77 x83 p98 p22 p23 s78 r17 s79 s80 r20 s81 o) := by
  unfold m31_6 at h
  try simp -implicitDefEqProofs only [go_sem, Nat.reduceLT, Nat.reduceAdd, Nat.reduceSub, Nat.reduceMul, Nat.reduceEqDiff, Nat.reduceBEq, Nat.reduceLeDiff, Int.reduceToNat, Int.reduceLT, Int.reduceLE, Int.reduceEq, reduceCtorEq, ↓reduceIte, X31_6, k31_6]
  cases b99 : (p98 : Bool)
  · replace h := br_f b99 h
    try simp -implicitDefEqProofs only [go_sem, Nat.reduceLT, Nat.reduceAdd, Nat.reduceSub, Nat.reduceMul, Nat.reduceEqDiff, Nat.reduceBEq, Nat.reduceLeDiff, Int.reduceToNat, Int.reduceLT, Int.reduceLE, Int.reduceEq, reduceCtorEq, ↓reduceIte, X31_6, k31_6, b99]
    cases b105 : (eqI x83 2 : Bool)
    · replace h := br_f b105 h
      cases h
      simp -implicitDefEqProofs only [go_sem, Nat.reduceLT, Nat.reduceAdd, Nat.reduceSub, Nat.reduceMul, Nat.reduceEqDiff, Nat.reduceBEq, Nat.reduceLeDiff, Int.reduceToNat, Int.reduceLT, Int.reduceLE, Int.reduceEq, reduceCtorEq, ↓reduceIte, X31_6, k31_6, b99, b105]
    · replace h := br_t b105 h
      obtain ⟨⟨r108, r109, r110⟩, q106, h⟩ := bnd_some h
      replace h := sel3_some h
      have w107 := e50 (⟨s80, s81, r20.asks⟩ : l12Side) a0 (r108, r109, r110) q106
      try simp -implicitDefEqProofs only [go_sem, Nat.reduceLT, Nat.reduceAdd, Nat.reduceSub, Nat.reduceMul, Nat.reduceEqDiff, Nat.reduceBEq, Nat.reduceLeDiff, Int.reduceToNat, Int.reduceLT, Int.reduceLE, Int.reduceEq, reduceCtorEq, ↓reduceIte] at w107
      cases h
      simp -implicitDefEqProofs only [go_sem, Nat.reduceLT, Nat.reduceAdd, Nat.reduceSub, Nat.reduceMul, Nat.reduceEqDiff, Nat.reduceBEq, Nat.reduceLeDiff, Int.reduceToNat, Int.reduceLT, Int.reduceLE, Int.reduceEq, reduceCtorEq, ↓reduceIte, X31_6, k31_6, b99, b105, w107]
  · replace h := br_t b99 h
    obtain ⟨⟨r102, r103, r104⟩, q100, h⟩ := bnd_some h
    replace h := sel3_some h
    have w101 := e50 (⟨s78, s79, r17.asks⟩ : l12Side) a1 (r102, r103, r104) q100
    try simp -implicitDefEqProofs only [go_sem, Nat.reduceLT, Nat.reduceAdd, Nat.reduceSub, Nat.reduceMul, Nat.reduceEqDiff, Nat.reduceBEq, Nat.reduceLeDiff, Int.reduceToNat, Int.reduceLT, Int.reduceLE, Int.reduceEq, reduceCtorEq, ↓reduceIte] at w101
    cases h
    simp -implicitDefEqProofs only [go_sem, Nat.reduceLT, Nat.reduceAdd, Nat.reduceSub, Nat.reduceMul, Nat.reduceEqDiff, Nat.reduceBEq, Nat.reduceLeDiff, Int.reduceToNat, Int.reduceLT, Int.reduceLE, Int.reduceEq, reduceCtorEq, ↓reduceIte, X31_6, k31_6, b99, w101]
def X31_5 (a0 : Int) (a1 : Int) (a2 : (List Int)) (p21 : Int) (s77 : Int) (x83 : Int) (p88 : Bool) (p22 : Session) (p23 : Session) (s78 : Session) (r17 : l12Side) (s79 : List Int) (s80 : Session) (r20 : l12Side) (s81 : List Int) (o : ((Session × List Int × Session × List Int × List Int × List Int) ⊕ (Session × Session))) : Ex × Fr × St :=
  match o with
  | .inl o => (.normal, frOf 94 (upd (upd (upd (upd (upd (upd (upd (upd (upd (upd (upd anyF 0 (.int .i64 a0)) 1 (.int .i64 a1)) 6 (.ptr 0 0 0)) 7 (.ptr 1 0 0)) 9 (.ptr 2 0 0)) 10 (.ptr 4 0 0)) 13 (.sl 6 0 o.2.2.2.2.1.length)) 14 (.sl 7 0 o.2.2.2.2.2.length)) 38 (.ts .imm 1 (a2.map encInt))) 39 (.int .i64 p21)) 40 (.int .i64 s77)), [some ⟨.box, 5, [[.int .i64 p22.state, .int .i64 p22.hold, .int .i64 p22.left, .int .i64 p22.quiet, .int .i64 p22.ups]]⟩, some ⟨.box, 5, [[.int .i64 p23.state, .int .i64 p23.hold, .int .i64 p23.left, .int .i64 p23.quiet, .int .i64 p23.ups]]⟩, some ⟨.box, 7, [[.int .i64 o.1.state, .int .i64 o.1.hold, .int .i64 o.1.left, .int .i64 o.1.quiet, .int .i64 o.1.ups, .sl 3 0 o.2.1.length, .int .i64 r17.asks]]⟩, some ⟨.arr, 1, o.2.1.map encInt⟩, some ⟨.box, 7, [[.int .i64 o.2.2.1.state, .int .i64 o.2.2.1.hold, .int .i64 o.2.2.1.left, .int .i64 o.2.2.1.quiet, .int .i64 o.2.2.1.ups, .sl 5 0 o.2.2.2.1.length, .int .i64 r20.asks]]⟩, some ⟨.arr, 1, o.2.2.2.1.map encInt⟩, some ⟨.arr, 1, o.2.2.2.2.1.map encInt⟩, some ⟨.arr, 1, o.2.2.2.2.2.map encInt⟩])
  | .inr o => (.ret, frOf 94 (upd (upd (upd anyF 6 (.ptr 0 0 0)) 7 (.ptr 1 0 0)) 8 (.bool false)), [some ⟨.box, 5, [[.int .i64 o.1.state, .int .i64 o.1.hold, .int .i64 o.1.left, .int .i64 o.1.quiet, .int .i64 o.1.ups]]⟩, some ⟨.box, 5, [[.int .i64 o.2.state, .int .i64 o.2.hold, .int .i64 o.2.left, .int .i64 o.2.quiet, .int .i64 o.2.ups]]⟩])
theorem e31_5 (a0 : Int) (a1 : Int) (a2 : (List Int)) (p21 : Int) (s77 : Int) (x83 : Int) (p88 : Bool) (p22 : Session) (p23 : Session) (s78 : Session) (r17 : l12Side) (s79 : List Int) (s80 : Session) (r20 : l12Side) (s81 : List Int) (o : ((Session × List Int × Session × List Int × List Int × List Int) ⊕ (Session × Session))) (h : m31_5 a0 a1 x83 p88 s78 r17 s79 s80 r20 s81 = some o) : evCL T 0 k31_5 (frOf 94 (upd (upd (upd (upd (upd (upd (upd (upd (upd (upd (upd (upd (upd anyF 0 (.int .i64 a0)) 1 (.int .i64 a1)) 6 (.ptr 0 0 0)) 7 (.ptr 1 0 0)) 9 (.ptr 2 0 0)) 10 (.ptr 4 0 0)) 13 (.sl 6 0 0)) 14 (.sl 7 0 0)) 38 (.ts .imm 1 (a2.map encInt))) 39 (.int .i64 p21)) 40 (.int .i64 s77)) 44 (.int .i64 x83)) 47 (.bool p88))) [some ⟨.box, 5, [[.int .i64 p22.state, .int .i64 p22.hold, .int .i64 p22.left, .int .i64 p22.quiet, .int .i64 p22.ups]]⟩, some ⟨.box, 5, [[.int .i64 p23.state, .int .i64 p23.hold, .int .i64 p23.left, .int .i64 p23.quiet, .int .i64 p23.ups]]⟩, some ⟨.box, 7, [[.int .i64 s78.state, .int .i64 s78.hold, .int .i64 s78.left, .int .i64 s78.quiet, .int .i64 s78.ups, .sl 3 0 s79.length, .int .i64 r17.asks]]⟩, some ⟨.arr, 1, s79.map encInt⟩, some ⟨.box, 7, [[.int .i64 s80.state, .int .i64 s80.hold, .int .i64 s80.left, .int .i64 s80.quiet, .int .i64 s80.ups, .sl 5 0 s81.length, .int .i64 r20.asks]]⟩, some ⟨.arr, 1, s81.map encInt⟩, some ⟨.arr, 1, []⟩, some ⟨.arr, 1, []⟩] = some (X31_5 a0 a1 a2 p21 s77 x83 p88 p22 p23 s78 r17 s79 s80 r20 s81 o) := by
  unfold m31_5 at h
  try simp -implicitDefEqProofs only [go_sem, Nat.reduceLT, Nat.reduceAdd, Nat.reduceSub, Nat.reduceMul, Nat.reduceEqDiff, Nat.reduceBEq, Nat.reduceLeDiff, Int.reduceToNat, Int.reduceLT, Int.reduceLE, Int.reduceEq, reduceCtorEq, ↓reduceIte, X31_5, k31_5]
  cases b89 : (p88 : Bool)
  · replace h := br_f b89 h
    try simp -implicitDefEqProofs only [go_sem, Nat.reduceLT, Nat.reduceAdd, Nat.reduceSub, Nat.reduceMul, Nat.reduceEqDiff, Nat.reduceBEq, Nat.reduceLeDiff, Int.reduceToNat, Int.reduceLT, Int.reduceLE, Int.reduceEq, reduceCtorEq, ↓reduceIte, X31_5, k31_5, b89]
    obtain ⟨o, q111, h⟩ := bnd_some h
    rcases o with ⟨v113, v114, v115, v116, v117, v118⟩ | ⟨v119, v120⟩
    · replace h := selS_l h
      replace h := sel6_some h
      have w112 := e31_6 a0 a1 a2 p21 s77 x83 (eqI x83 1) p22 p23 s78 r17 s79 s80 r20 s81 (.inl (v113, v114, v115, v116, v117, v118)) q111
      simp only [X31_6] at w112
      try simp -implicitDefEqProofs only [go_sem, Nat.reduceLT, Nat.reduceAdd, Nat.reduceSub, Nat.reduceMul, Nat.reduceEqDiff, Nat.reduceBEq, Nat.reduceLeDiff, Int.reduceToNat, Int.reduceLT, Int.reduceLE, Int.reduceEq, reduceCtorEq, ↓reduceIte] at w112
      cases h
      simp -implicitDefEqProofs only [go_sem, Nat.reduceLT, Nat.reduceAdd, Nat.reduceSub, Nat.reduceMul, Nat.reduceEqDiff, Nat.reduceBEq, Nat.reduceLeDiff, Int.reduceToNat, Int.reduceLT, Int.reduceLE, Int.reduceEq, reduceCtorEq, ↓reduceIte, X31_5, k31_5, b89, w112]
    · replace h := selS_r h
      replace h := sel2_some h
      have w112 := e31_6 a0 a1 a2 p21 s77 x83 (eqI x83 1) p22 p23 s78 r17 s79 s80 r20 s81 (.inr (v119, v120)) q111
      simp only [X31_6] at w112
      try simp -implicitDefEqProofs only [go_sem, Nat.reduceLT, Nat.reduceAdd, Nat.reduceSub, Nat.reduceMul, Nat.reduceEqDiff, Nat.reduceBEq, Nat.reduceLeDiff, Int.reduceToNat, Int.reduceLT, Int.reduceLE, Int.reduceEq, reduceCtorEq, ↓reduceIte] at w112
      cases h
      simp -implicitDefEqProofs only [go_sem, Nat.reduceLT, Nat.reduceAdd, Nat.reduceSub, Nat.reduceMul, Nat.reduceEqDiff, Nat.reduceBEq, Nat.reduceLeDiff, Int.reduceToNat, Int.reduceLT, Int.reduceLE, Int.reduceEq, reduceCtorEq, ↓reduceIte, X31_5, k31_5, b89, w112]
  · replace h := br_t b89 h
    obtain ⟨⟨r92, r93⟩, q90, h⟩ := bnd_some h
    replace h := sel2_some h
    have w91 := e49 s78 (r92, r93) q90
    try simp -implicitDefEqProofs only [go_sem, Nat.reduceLT, Nat.reduceAdd, Nat.reduceSub, Nat.reduceMul, Nat.reduceEqDiff, Nat.reduceBEq, Nat.reduceLeDiff, Int.reduceToNat, Int.reduceLT, Int.reduceLE, Int.reduceEq, reduceCtorEq, ↓reduceIte] at w91
    obtain ⟨⟨r96, r97⟩, q94, h⟩ := bnd_some h
    replace h := sel2_some h
    have w95 := e49 s80 (r96, r97) q94
    try simp -implicitDefEqProofs only [go_sem, Nat.reduceLT, Nat.reduceAdd, Nat.reduceSub, Nat.reduceMul, Nat.reduceEqDiff, Nat.reduceBEq, Nat.reduceLeDiff, Int.reduceToNat, Int.reduceLT, Int.reduceLE, Int.reduceEq, reduceCtorEq, ↓reduceIte] at w95
    cases h
    simp -implicitDefEqProofs only [go_sem, Nat.reduceLT, Nat.reduceAdd, Nat.reduceSub, Nat.reduceMul, Nat.reduceEqDiff, Nat.reduceBEq, Nat.reduceLeDiff, Int.reduceToNat, Int.reduceLT, Int.reduceLE, Int.reduceEq, reduceCtorEq, ↓reduceIte, X31_5, k31_5, b89, w91, w95]
def X31_2 (a0 : Int) (a1 : Int) (a2 : (List Int)) (p21 : Int) (p22 : Session) (p23 : Session) (r17 : l12Side) (r20 : l12Side) (o : ((Session × List Int × Session × List Int) ⊕ (Session × Session))) : Ex × Fr × St :=
  match o with
  | .inl o => (.exit 0, frOf 94 (upd (upd (upd (upd anyF 6 (.ptr 0 0 0)) 7 (.ptr 1 0 0)) 9 (.ptr 2 0 0)) 10 (.ptr 4 0 0)), [some ⟨.box, 5, [[.int .i64 p22.state, .int .i64 p22.hold, .int .i64 p22.left, .int .i64 p22.quiet, .int .i64 p22.ups]]⟩, some ⟨.box, 5, [[.int .i64 p23.state, .int .i64 p23.hold, .int .i64 p23.left, .int .i64 p23.quiet, .int .i64 p23.ups]]⟩, some ⟨.box, 7, [[.int .i64 o.1.state, .int .i64 o.1.hold, .int .i64 o.1.left, .int .i64 o.1.quiet, .int .i64 o.1.ups, .sl 3 0 o.2.1.length, .int .i64 r17.asks]]⟩, some ⟨.arr, 1, o.2.1.map encInt⟩, some ⟨.box, 7, [[.int .i64 o.2.2.1.state, .int .i64 o.2.2.1.hold, .int .i64 o.2.2.1.left, .int .i64 o.2.2.1.quiet, .int .i64 o.2.2.1.ups, .sl 5 0 o.2.2.2.length, .int .i64 r20.asks]]⟩, some ⟨.arr, 1, o.2.2.2.map encInt⟩])
  | .inr o => (.ret, frOf 94 (upd (upd (upd anyF 6 (.ptr 0 0 0)) 7 (.ptr 1 0 0)) 8 (.bool false)), [some ⟨.box, 5, [[.int .i64 o.1.state, .int .i64 o.1.hold, .int .i64 o.1.left, .int .i64 o.1.quiet, .int .i64 o.1.ups]]⟩, some ⟨.box, 5, [[.int .i64 o.2.state, .int .i64 o.2.hold, .int .i64 o.2.left, .int .i64 o.2.quiet, .int .i64 o.2.ups]]⟩])
def E31_2 (a0 : Int) (a1 : Int) (a2 : (List Int)) (p21 : Int) (p22 : Session) (p23 : Session) (r17 : l12Side) (r20 : l12Side) (s : (Int × Session × List Int × Session × List Int)) : Fr × St := (frOf 94 (upd (upd (upd (upd (upd (upd (upd (upd (upd anyF 0 (.int .i64 a0)) 1 (.int .i64 a1)) 6 (.ptr 0 0 0)) 7 (.ptr 1 0 0)) 9 (.ptr 2 0 0)) 10 (.ptr 4 0 0)) 38 (.ts .imm 1 (a2.map encInt))) 39 (.int .i64 p21)) 40 (.int .i64 s.1)), [some ⟨.box, 5, [[.int .i64 p22.state, .int .i64 p22.hold, .int .i64 p22.left, .int .i64 p22.quiet, .int .i64 p22.ups]]⟩, some ⟨.box, 5, [[.int .i64 p23.state, .int .i64 p23.hold, .int .i64 p23.left, .int .i64 p23.quiet, .int .i64 p23.ups]]⟩, some ⟨.box, 7, [[.int .i64 s.2.1.state, .int .i64 s.2.1.hold, .int .i64 s.2.1.left, .int .i64 s.2.1.quiet, .int .i64 s.2.1.ups, .sl 3 0 s.2.2.1.length, .int .i64 r17.asks]]⟩, some ⟨.arr, 1, s.2.2.1.map encInt⟩, some ⟨.box, 7, [[.int .i64 s.2.2.2.1.state, .int .i64 s.2.2.2.1.hold, .int .i64 s.2.2.2.1.left, .int .i64 s.2.2.2.1.quiet, .int .i64 s.2.2.2.1.ups, .sl 5 0 s.2.2.2.2.length, .int .i64 r20.asks]]⟩, some ⟨.arr, 1, s.2.2.2.2.map encInt⟩])
theorem b31_2 (a0 : Int) (a1 : Int) (a2 : (List Int)) (p21 : Int) (p22 : Session) (p23 : Session) (r17 : l12Side) (r20 : l12Side) (s : (Int × Session × List Int × Session × List Int)) (o : Ctl (Int × Session × List Int × Session × List Int) ((Session × List Int × Session × List Int) ⊕ (Session × Session))) (h : m31_2b a0 a1 a2 p21 r17 r20 s = some o) : evCL T 0 k31_2b (E31_2 a0 a1 a2 p21 p22 p23 r17 r20 s).1 (E31_2 a0 a1 a2 p21 p22 p23 r17 r20 s).2 = some (ctlX (E31_2 a0 a1 a2 p21 p22 p23 r17 r20) (X31_2 a0 a1 a2 p21 p22 p23 r17 r20) o) := by
  unfold m31_2b at h
  obtain ⟨s77, s78, s79, s80, s81⟩ := s
  replace h := sel5_some h
  try simp -implicitDefEqProofs only [go_sem, Nat.reduceLT, Nat.reduceAdd, Nat.reduceSub, Nat.reduceMul, Nat.reduceEqDiff, Nat.reduceBEq, Nat.reduceLeDiff, Int.reduceToNat, Int.reduceLT, Int.reduceLE, Int.reduceEq, reduceCtorEq, ↓reduceIte, E31_2, X31_2, k31_2b]
  cases b82 : (ltI s77 p21 : Bool)
  · replace h := br_f b82 h
    cases h
    simp -implicitDefEqProofs only [go_sem, Nat.reduceLT, Nat.reduceAdd, Nat.reduceSub, Nat.reduceMul, Nat.reduceEqDiff, Nat.reduceBEq, Nat.reduceLeDiff, Int.reduceToNat, Int.reduceLT, Int.reduceLE, Int.reduceEq, reduceCtorEq, ↓reduceIte, E31_2, X31_2, k31_2b, b82]
  · replace h := br_t b82 h
    obtain ⟨x83, q84, h⟩ := bnd_some h
    obtain ⟨g85, g86, g87⟩ := idx_row encInt q84
    try simp -implicitDefEqProofs only [go_sem, Nat.reduceLT, Nat.reduceAdd, Nat.reduceSub, Nat.reduceMul, Nat.reduceEqDiff, Nat.reduceBEq, Nat.reduceLeDiff, Int.reduceToNat, Int.reduceLT, Int.reduceLE, Int.reduceEq, reduceCtorEq, ↓reduceIte] at g86
    try simp -implicitDefEqProofs only [go_sem, Nat.reduceLT, Nat.reduceAdd, Nat.reduceSub, Nat.reduceMul, Nat.reduceEqDiff, Nat.reduceBEq, Nat.reduceLeDiff, Int.reduceToNat, Int.reduceLT, Int.reduceLE, Int.reduceEq, reduceCtorEq, ↓reduceIte] at g87
    try simp -implicitDefEqProofs only [go_sem, Nat.reduceLT, Nat.reduceAdd, Nat.reduceSub, Nat.reduceMul, Nat.reduceEqDiff, Nat.reduceBEq, Nat.reduceLeDiff, Int.reduceToNat, Int.reduceLT, Int.reduceLE, Int.reduceEq, reduceCtorEq, ↓reduceIte, E31_2, X31_2, k31_2b, b82, g85, g86, g87]
    obtain ⟨o, q121, h⟩ := bnd_some h
    rcases o with ⟨v123, v124, v125, v126, v127, v128⟩ | ⟨v131, v132⟩
    · replace h := selS_l h
      replace h := sel6_some h
      have w122 := e31_5 a0 a1 a2 p21 s77 x83 (eqI x83 0) p22 p23 s78 r17 s79 s80 r20 s81 (.inl (v123, v124, v125, v126, v127, v128)) q121
      simp only [X31_5] at w122
      try simp -implicitDefEqProofs only [go_sem, Nat.reduceLT, Nat.reduceAdd, Nat.reduceSub, Nat.reduceMul, Nat.reduceEqDiff, Nat.reduceBEq, Nat.reduceLeDiff, Int.reduceToNat, Int.reduceLT, Int.reduceLE, Int.reduceEq, reduceCtorEq, ↓reduceIte] at w122
      obtain ⟨g129, h⟩ := ck_some h
      try simp -implicitDefEqProofs only [go_sem, Nat.reduceLT, Nat.reduceAdd, Nat.reduceSub, Nat.reduceMul, Nat.reduceEqDiff, Nat.reduceBEq, Nat.reduceLeDiff, Int.reduceToNat, Int.reduceLT, Int.reduceLE, Int.reduceEq, reduceCtorEq, ↓reduceIte] at g129
      obtain ⟨g130, h⟩ := ck_some h
      try simp -implicitDefEqProofs only [go_sem, Nat.reduceLT, Nat.reduceAdd, Nat.reduceSub, Nat.reduceMul, Nat.reduceEqDiff, Nat.reduceBEq, Nat.reduceLeDiff, Int.reduceToNat, Int.reduceLT, Int.reduceLE, Int.reduceEq, reduceCtorEq, ↓reduceIte] at g130
      cases h
      simp -implicitDefEqProofs only [go_sem, Nat.reduceLT, Nat.reduceAdd, Nat.reduceSub, Nat.reduceMul, Nat.reduceEqDiff, Nat.reduceBEq, Nat.reduceLeDiff, Int.reduceToNat, Int.reduceLT, Int.reduceLE, Int.reduceEq, reduceCtorEq, ↓reduceIte, E31_2, X31_2, k31_2b, b82, g85, g86, g87, w122, g129, g130]
    · replace h := selS_r h
      replace h := sel2_some h
      have w122 := e31_5 a0 a1 a2 p21 s77 x83 (eqI x83 0) p22 p23 s78 r17 s79 s80 r20 s81 (.inr (v131, v132)) q121
      simp only [X31_5] at w122
      try simp -implicitDefEqProofs only [go_sem, Nat.reduceLT, Nat.reduceAdd, Nat.reduceSub, Nat.reduceMul, Nat.reduceEqDiff, Nat.reduceBEq, Nat.reduceLeDiff, Int.reduceToNat, Int.reduceLT, Int.reduceLE, Int.reduceEq, reduceCtorEq, ↓reduceIte] at w122
      cases h
      simp -implicitDefEqProofs only [go_sem, Nat.reduceLT, Nat.reduceAdd, Nat.reduceSub, Nat.reduceMul, Nat.reduceEqDiff, Nat.reduceBEq, Nat.reduceLeDiff, Int.reduceToNat, Int.reduceLT, Int.reduceLE, Int.reduceEq, reduceCtorEq, ↓reduceIte, E31_2, X31_2, k31_2b, b82, g85, g86, g87, w122]
theorem e31_2 (a0 : Int) (a1 : Int) (a2 : (List Int)) (p21 : Int) (p22 : Session) (p23 : Session) (r17 : l12Side) (r20 : l12Side) (s : (Int × Session × List Int × Session × List Int)) (o : ((Session × List Int × Session × List Int) ⊕ (Session × Session))) (h : loopP (m31_2b a0 a1 a2 p21 r17 r20) s = some o) : evCL T 0 (.loop k31_2b) (E31_2 a0 a1 a2 p21 p22 p23 r17 r20 s).1 (E31_2 a0 a1 a2 p21 p22 p23 r17 r20 s).2 = some (X31_2 a0 a1 a2 p21 p22 p23 r17 r20 o) :=
  loop_walk (E := E31_2 a0 a1 a2 p21 p22 p23 r17 r20) (X := X31_2 a0 a1 a2 p21 p22 p23 r17 r20) (by intro b; rcases b with b | b <;> (simp only [X31_2]; nofun)) (b31_2 a0 a1 a2 p21 p22 p23 r17 r20) s o h
theorem call31 (args : List AV) (S : St) : evCall T (evFL T) 31 args S = lendC (evFL T 31) S (lendAll S [[0], [0], [1]] args) := evCall0 fn31 rfl rfl args S
theorem callz31 (args : List AV) (S : St) : evCallFz T (evFL T) 31 args S = lendZ (evFL T 31) S [[0, 0, 0, 0, 0], [0, 0, 0, 0, 0], [0]] (lendAll S [[0], [0], [1]] args) := evCallFz0 fn31 rfl rfl args S
attribute [go_sem] call31 callz31
theorem e31 (a0 : Int) (a1 : Int) (a2 : (List Int)) (r : (Session × Session × Bool)) (h : m31 a0 a1 a2 = some r) : evFL T 31 [.int .i64 a0, .int .i64 a1, .ts .imm 1 (a2.map encInt)] [] = some (.tup [.agg [.int .i64 r.1.state, .int .i64 r.1.hold, .int .i64 r.1.left, .int .i64 r.1.quiet, .int .i64 r.1.ups], .agg [.int .i64 r.2.1.state, .int .i64 r.2.1.hold, .int .i64 r.2.1.left, .int .i64 r.2.1.quiet, .int .i64 r.2.1.ups], .bool r.2.2], []) := by
  unfold m31 at h
  rw [evFL_at fn31 (Nat.le_of_ble_eq_true rfl) rfl (.inr rfl)]
  obtain ⟨v13, q11, h⟩ := bnd_some h
  have w12 := e31_1 a0 a1 a2 (⟨0, 0, 0, 0, 0⟩ : Session) (⟨0, 0, 0, 0, 0⟩ : Session) v13 q11
  simp only [X31_1] at w12
  try simp -implicitDefEqProofs only [go_sem, Nat.reduceLT, Nat.reduceAdd, Nat.reduceSub, Nat.reduceMul, Nat.reduceEqDiff, Nat.reduceBEq, Nat.reduceLeDiff, Int.reduceToNat, Int.reduceLT, Int.reduceLE, Int.reduceEq, reduceCtorEq, ↓reduceIte] at w12
  try simp -implicitDefEqProofs only [go_sem, Nat.reduceLT, Nat.reduceAdd, Nat.reduceSub, Nat.reduceMul, Nat.reduceEqDiff, Nat.reduceBEq, Nat.reduceLeDiff, Int.reduceToNat, Int.reduceLT, Int.reduceLE, Int.reduceEq, reduceCtorEq, ↓reduceIte, i31, c31, w12]
  cases b14 : (v13 : Bool)
  · replace h := br_f b14 h
    obtain ⟨r17, q15, h⟩ := bnd_some h
    have w16 := e48 a0 r17 q15
    try simp -implicitDefEqProofs only [go_sem, Nat.reduceLT, Nat.reduceAdd, Nat.reduceSub, Nat.reduceMul, Nat.reduceEqDiff, Nat.reduceBEq, Nat.reduceLeDiff, Int.reduceToNat, Int.reduceLT, Int.reduceLE, Int.reduceEq, reduceCtorEq, ↓reduceIte] at w16
    obtain ⟨r20, q18, h⟩ := bnd_some h
    have w19 := e48 a1 r20 q18
    try simp -implicitDefEqProofs only [go_sem, Nat.reduceLT, Nat.reduceAdd, Nat.reduceSub, Nat.reduceMul, Nat.reduceEqDiff, Nat.reduceBEq, Nat.reduceLeDiff, Int.reduceToNat, Int.reduceLT, Int.reduceLE, Int.reduceEq, reduceCtorEq, ↓reduceIte] at w19
    try simp -implicitDefEqProofs only [go_sem, Nat.reduceLT, Nat.reduceAdd, Nat.reduceSub, Nat.reduceMul, Nat.reduceEqDiff, Nat.reduceBEq, Nat.reduceLeDiff, Int.reduceToNat, Int.reduceLT, Int.reduceLE, Int.reduceEq, reduceCtorEq, ↓reduceIte, i31, c31, w12, b14, w16, w19]
    obtain ⟨o, q133, h⟩ := bnd_some h
    rcases o with ⟨v135, v136, v137, v138⟩ | ⟨v139, v140⟩
    · replace h := selS_l h
      replace h := sel4_some h
      have w134 := e31_2 a0 a1 a2 (↑a2.length : Int) (⟨0, 0, 0, 0, 0⟩ : Session) (⟨0, 0, 0, 0, 0⟩ : Session) r17 r20 (0, r17.s, [1], r20.s, [1]) (.inl (v135, v136, v137, v138)) q133
      simp only [E31_2, X31_2] at w134
      try simp -implicitDefEqProofs only [go_sem, Nat.reduceLT, Nat.reduceAdd, Nat.reduceSub, Nat.reduceMul, Nat.reduceEqDiff, Nat.reduceBEq, Nat.reduceLeDiff, Int.reduceToNat, Int.reduceLT, Int.reduceLE, Int.reduceEq, reduceCtorEq, ↓reduceIte] at w134
      cases h
      simp -implicitDefEqProofs only [go_sem, Nat.reduceLT, Nat.reduceAdd, Nat.reduceSub, Nat.reduceMul, Nat.reduceEqDiff, Nat.reduceBEq, Nat.reduceLeDiff, Int.reduceToNat, Int.reduceLT, Int.reduceLE, Int.reduceEq, reduceCtorEq, ↓reduceIte, i31, c31, w12, b14, w16, w19, w134]
    · replace h := selS_r h
      replace h := sel2_some h
      have w134 := e31_2 a0 a1 a2 (↑a2.length : Int) (⟨0, 0, 0, 0, 0⟩ : Session) (⟨0, 0, 0, 0, 0⟩ : Session) r17 r20 (0, r17.s, [1], r20.s, [1]) (.inr (v139, v140)) q133
      simp only [E31_2, X31_2] at w134
      try simp -implicitDefEqProofs only [go_sem, Nat.reduceLT, Nat.reduceAdd, Nat.reduceSub, Nat.reduceMul, Nat.reduceEqDiff, Nat.reduceBEq, Nat.reduceLeDiff, Int.reduceToNat, Int.reduceLT, Int.reduceLE, Int.reduceEq, reduceCtorEq, ↓reduceIte] at w134
      cases h
      simp -implicitDefEqProofs only [go_sem, Nat.reduceLT, Nat.reduceAdd, Nat.reduceSub, Nat.reduceMul, Nat.reduceEqDiff, Nat.reduceBEq, Nat.reduceLeDiff, Int.reduceToNat, Int.reduceLT, Int.reduceLE, Int.reduceEq, reduceCtorEq, ↓reduceIte, i31, c31, w12, b14, w16, w19, w134]
  · replace h := br_t b14 h
    cases h
    simp -implicitDefEqProofs only [go_sem, Nat.reduceLT, Nat.reduceAdd, Nat.reduceSub, Nat.reduceMul, Nat.reduceEqDiff, Nat.reduceBEq, Nat.reduceLeDiff, Int.reduceToNat, Int.reduceLT, Int.reduceLE, Int.reduceEq, reduceCtorEq, ↓reduceIte, i31, c31, w12, b14]
-- f16 impl.GoodSession
def X16_1 (a0 : Session) (o : Bool) : Ex × Fr × St :=
  (.normal, frOf 43 (upd (upd anyF 1 (.ptr 0 0 0)) 20 (.bool o)), [some ⟨.box, 5, [[.int .i64 a0.state, .int .i64 a0.hold, .int .i64 a0.left, .int .i64 a0.quiet, .int .i64 a0.ups]]⟩])
theorem e16_1 (a0 : Session) (o : Bool) (h : m16_1 a0 = some o) : evCL T 0 k16_1 (frOf 43 (upd anyF 1 (.ptr 0 0 0))) [some ⟨.box, 5, [[.int .i64 a0.state, .int .i64 a0.hold, .int .i64 a0.left, .int .i64 a0.quiet, .int .i64 a0.ups]]⟩] = some (X16_1 a0 o) := by
  unfold m16_1 at h
  obtain ⟨r3, q1, h⟩ := bnd_some h
  have w2 := e40 a0.state 0 4 r3 q1
  try simp -implicitDefEqProofs only [go_sem, Nat.reduceLT, Nat.reduceAdd, Nat.reduceSub, Nat.reduceMul, Nat.reduceEqDiff, Nat.reduceBEq, Nat.reduceLeDiff, Int.reduceToNat, Int.reduceLT, Int.reduceLE, Int.reduceEq, reduceCtorEq, ↓reduceIte] at w2
  try simp -implicitDefEqProofs only [go_sem, Nat.reduceLT, Nat.reduceAdd, Nat.reduceSub, Nat.reduceMul, Nat.reduceEqDiff, Nat.reduceBEq, Nat.reduceLeDiff, Int.reduceToNat, Int.reduceLT, Int.reduceLE, Int.reduceEq, reduceCtorEq, ↓reduceIte, X16_1, k16_1, w2]
  cases b4 : (r3 : Bool)
  · replace h := br_f b4 h
    cases h
    simp -implicitDefEqProofs only [go_sem, Nat.reduceLT, Nat.reduceAdd, Nat.reduceSub, Nat.reduceMul, Nat.reduceEqDiff, Nat.reduceBEq, Nat.reduceLeDiff, Int.reduceToNat, Int.reduceLT, Int.reduceLE, Int.reduceEq, reduceCtorEq, ↓reduceIte, X16_1, k16_1, w2, b4]
  · replace h := br_t b4 h
    obtain ⟨r7, q5, h⟩ := bnd_some h
    have w6 := e40 a0.hold 3 90 r7 q5
    try simp -implicitDefEqProofs only [go_sem, Nat.reduceLT, Nat.reduceAdd, Nat.reduceSub, Nat.reduceMul, Nat.reduceEqDiff, Nat.reduceBEq, Nat.reduceLeDiff, Int.reduceToNat, Int.reduceLT, Int.reduceLE, Int.reduceEq, reduceCtorEq, ↓reduceIte] at w6
    try simp -implicitDefEqProofs only [go_sem, Nat.reduceLT, Nat.reduceAdd, Nat.reduceSub, Nat.reduceMul, Nat.reduceEqDiff, Nat.reduceBEq, Nat.reduceLeDiff, Int.reduceToNat, Int.reduceLT, Int.reduceLE, Int.reduceEq, reduceCtorEq, ↓reduceIte, X16_1, k16_1, w2, b4, w6]
    cases b8 : (r7 : Bool)
    · replace h := br_f b8 h
      cases h
      simp -implicitDefEqProofs only [go_sem, Nat.reduceLT, Nat.reduceAdd, Nat.reduceSub, Nat.reduceMul, Nat.reduceEqDiff, Nat.reduceBEq, Nat.reduceLeDiff, Int.reduceToNat, Int.reduceLT, Int.reduceLE, Int.reduceEq, reduceCtorEq, ↓reduceIte, X16_1, k16_1, w2, b4, w6, b8]
    · replace h := br_t b8 h
      obtain ⟨r11, q9, h⟩ := bnd_some h
      have w10 := e40 a0.ups 0 1000 r11 q9
      try simp -implicitDefEqProofs only [go_sem, Nat.reduceLT, Nat.reduceAdd, Nat.reduceSub, Nat.reduceMul, Nat.reduceEqDiff, Nat.reduceBEq, Nat.reduceLeDiff, Int.reduceToNat, Int.reduceLT, Int.reduceLE, Int.reduceEq, reduceCtorEq, ↓reduceIte] at w10
      cases h
      simp -implicitDefEqProofs only [go_sem, Nat.reduceLT, Nat.reduceAdd, Nat.reduceSub, Nat.reduceMul, Nat.reduceEqDiff, Nat.reduceBEq, Nat.reduceLeDiff, Int.reduceToNat, Int.reduceLT, Int.reduceLE, Int.reduceEq, reduceCtorEq, ↓reduceIte, X16_1, k16_1, w2, b4, w6, b8, w10]
def X16_2 (p16 : Bool) (p17 : Bool) (p18 : Bool) (a0 : Session) (o : Bool) : Ex × Fr × St :=
  (.normal, frOf 43 (upd (upd (upd anyF 1 (.ptr 0 0 0)) 3 (.bool o)) 4 (.bool p17)), [some ⟨.box, 5, [[.int .i64 a0.state, .int .i64 a0.hold, .int .i64 a0.left, .int .i64 a0.quiet, .int .i64 a0.ups]]⟩])
theorem e16_2 (p16 : Bool) (p17 : Bool) (p18 : Bool) (a0 : Session) (o : Bool) (h : m16_2 p16 p18 a0 = some o) : evCL T 0 k16_2 (frOf 43 (upd (upd (upd (upd anyF 1 (.ptr 0 0 0)) 3 (.bool p16)) 4 (.bool p17)) 29 (.bool p18))) [some ⟨.box, 5, [[.int .i64 a0.state, .int .i64 a0.hold, .int .i64 a0.left, .int .i64 a0.quiet, .int .i64 a0.ups]]⟩] = some (X16_2 p16 p17 p18 a0 o) := by
  unfold m16_2 at h
  try simp -implicitDefEqProofs only [go_sem, Nat.reduceLT, Nat.reduceAdd, Nat.reduceSub, Nat.reduceMul, Nat.reduceEqDiff, Nat.reduceBEq, Nat.reduceLeDiff, Int.reduceToNat, Int.reduceLT, Int.reduceLE, Int.reduceEq, reduceCtorEq, ↓reduceIte, X16_2, k16_2]
  cases b19 : (p18 : Bool)
  · replace h := br_f b19 h
    cases h
    simp -implicitDefEqProofs only [go_sem, Nat.reduceLT, Nat.reduceAdd, Nat.reduceSub, Nat.reduceMul, Nat.reduceEqDiff, Nat.reduceBEq, Nat.reduceLeDiff, Int.reduceToNat, Int.reduceLT, Int.reduceLE, Int.reduceEq, reduceCtorEq, ↓reduceIte, X16_2, k16_2, b19]
  · replace h := br_t b19 h
    obtain ⟨r22, q20, h⟩ := bnd_some h
    have w21 := e40 a0.left 1 90 r22 q20
    try simp -implicitDefEqProofs only [go_sem, Nat.reduceLT, Nat.reduceAdd, Nat.reduceSub, Nat.reduceMul, Nat.reduceEqDiff, Nat.reduceBEq, Nat.reduceLeDiff, Int.reduceToNat, Int.reduceLT, Int.reduceLE, Int.reduceEq, reduceCtorEq, ↓reduceIte] at w21
    cases h
    simp -implicitDefEqProofs only [go_sem, Nat.reduceLT, Nat.reduceAdd, Nat.reduceSub, Nat.reduceMul, Nat.reduceEqDiff, Nat.reduceBEq, Nat.reduceLeDiff, Int.reduceToNat, Int.reduceLT, Int.reduceLE, Int.reduceEq, reduceCtorEq, ↓reduceIte, X16_2, k16_2, b19, w21]
def X16_3 (v25 : Bool) (p26 : Bool) (p27 : Bool) (a0 : Session) (o : Bool) : Ex × Fr × St :=
  (.normal, frOf 43 (upd (upd anyF 3 (.bool v25)) 4 (.bool o)), [])
theorem e16_3 (v25 : Bool) (p26 : Bool) (p27 : Bool) (a0 : Session) (o : Bool) (h : m16_3 p26 p27 a0 = some o) : evCL T 0 k16_3 (frOf 43 (upd (upd (upd (upd anyF 1 (.ptr 0 0 0)) 3 (.bool v25)) 4 (.bool p26)) 35 (.bool p27))) [some ⟨.box, 5, [[.int .i64 a0.state, .int .i64 a0.hold, .int .i64 a0.left, .int .i64 a0.quiet, .int .i64 a0.ups]]⟩] = some (X16_3 v25 p26 p27 a0 o) := by
  unfold m16_3 at h
  try simp -implicitDefEqProofs only [go_sem, Nat.reduceLT, Nat.reduceAdd, Nat.reduceSub, Nat.reduceMul, Nat.reduceEqDiff, Nat.reduceBEq, Nat.reduceLeDiff, Int.reduceToNat, Int.reduceLT, Int.reduceLE, Int.reduceEq, reduceCtorEq, ↓reduceIte, X16_3, k16_3]
  cases b28 : (p27 : Bool)
  · replace h := br_f b28 h
    cases h
    simp -implicitDefEqProofs only [go_sem, Nat.reduceLT, Nat.reduceAdd, Nat.reduceSub, Nat.reduceMul, Nat.reduceEqDiff, Nat.reduceBEq, Nat.reduceLeDiff, Int.reduceToNat, Int.reduceLT, Int.reduceLE, Int.reduceEq, reduceCtorEq, ↓reduceIte, X16_3, k16_3, b28]
  · replace h := br_t b28 h
    obtain ⟨r31, q29, h⟩ := bnd_some h
    have w30 := e40 a0.quiet 1 30 r31 q29
    try simp -implicitDefEqProofs only [go_sem, Nat.reduceLT, Nat.reduceAdd, Nat.reduceSub, Nat.reduceMul, Nat.reduceEqDiff, Nat.reduceBEq, Nat.reduceLeDiff, Int.reduceToNat, Int.reduceLT, Int.reduceLE, Int.reduceEq, reduceCtorEq, ↓reduceIte] at w30
    cases h
    simp -implicitDefEqProofs only [go_sem, Nat.reduceLT, Nat.reduceAdd, Nat.reduceSub, Nat.reduceMul, Nat.reduceEqDiff, Nat.reduceBEq, Nat.reduceLeDiff, Int.reduceToNat, Int.reduceLT, Int.reduceLE, Int.reduceEq, reduceCtorEq, ↓reduceIte, X16_3, k16_3, b28, w30]
def X16_4 (v25 : Bool) (v34 : Bool) (o : Bool) : Ex × Fr × St :=
  (.normal, frOf 43 (upd anyF 2 (.bool o)), [])
theorem e16_4 (v25 : Bool) (v34 : Bool) (o : Bool) (h : m16_4 v25 v34 = some o) : evCL T 0 k16_4 (frOf 43 (upd (upd anyF 3 (.bool v25)) 4 (.bool v34))) [] = some (X16_4 v25 v34 o) := by
  unfold m16_4 at h
  try simp -implicitDefEqProofs only [go_sem, Nat.reduceLT, Nat.reduceAdd, Nat.reduceSub, Nat.reduceMul, Nat.reduceEqDiff, Nat.reduceBEq, Nat.reduceLeDiff, Int.reduceToNat, Int.reduceLT, Int.reduceLE, Int.reduceEq, reduceCtorEq, ↓reduceIte, X16_4, k16_4]
  cases b35 : (v25 : Bool)
  · replace h := br_f b35 h
    cases h
    simp -implicitDefEqProofs only [go_sem, Nat.reduceLT, Nat.reduceAdd, Nat.reduceSub, Nat.reduceMul, Nat.reduceEqDiff, Nat.reduceBEq, Nat.reduceLeDiff, Int.reduceToNat, Int.reduceLT, Int.reduceLE, Int.reduceEq, reduceCtorEq, ↓reduceIte, X16_4, k16_4, b35]
  · replace h := br_t b35 h
    cases h
    simp -implicitDefEqProofs only [go_sem, Nat.reduceLT, Nat.reduceAdd, Nat.reduceSub, Nat.reduceMul, Nat.reduceEqDiff, Nat.reduceBEq, Nat.reduceLeDiff, Int.reduceToNat, Int.reduceLT, Int.reduceLE, Int.reduceEq, reduceCtorEq, ↓reduceIte, X16_4, k16_4, b35]
theorem call16 (args : List AV) (S : St) : evCall T (evFL T) 16 args S = lendC (evFL T 16) S (lendAll S [[0, 0, 0, 0, 0]] args) := evCall0 fn16 rfl rfl args S
theorem callz16 (args : List AV) (S : St) : evCallFz T (evFL T) 16 args S = lendZ (evFL T 16) S [[0]] (lendAll S [[0, 0, 0, 0, 0]] args) := evCallFz0 fn16 rfl rfl args S
attribute [go_sem] call16 callz16
theorem e16 (a0 : Session) (r : Bool) (h : m16 a0 = some r) : evFL T 16 [.agg [.int .i64 a0.state, .int .i64 a0.hold, .int .i64 a0.left, .int .i64 a0.quiet, .int .i64 a0.ups]] [] = some (.bool r, []) := by
  unfold m16 at h
  rw [evFL_at fn16 (Nat.le_of_ble_eq_true rfl) rfl (.inr rfl)]
  obtain ⟨v14, q12, h⟩ := bnd_some h
  have w13 := e16_1 a0 v14 q12
  simp only [X16_1] at w13
  try simp -implicitDefEqProofs only [go_sem, Nat.reduceLT, Nat.reduceAdd, Nat.reduceSub, Nat.reduceMul, Nat.reduceEqDiff, Nat.reduceBEq, Nat.reduceLeDiff, Int.reduceToNat, Int.reduceLT, Int.reduceLE, Int.reduceEq, reduceCtorEq, ↓reduceIte] at w13
  try simp -implicitDefEqProofs only [go_sem, Nat.reduceLT, Nat.reduceAdd, Nat.reduceSub, Nat.reduceMul, Nat.reduceEqDiff, Nat.reduceBEq, Nat.reduceLeDiff, Int.reduceToNat, Int.reduceLT, Int.reduceLE, Int.reduceEq, reduceCtorEq, ↓reduceIte, i16, c16, w13]
  cases b15 : (v14 : Bool)
  · replace h := br_f b15 h
    obtain ⟨v25, q23, h⟩ := bnd_some h
    have w24 := e16_2 (eqI a0.left 0) (eqI a0.quiet 0) (leI 2 a0.state) a0 v25 q23
    simp only [X16_2] at w24
    try simp -implicitDefEqProofs only [go_sem, Nat.reduceLT, Nat.reduceAdd, Nat.reduceSub, Nat.reduceMul, Nat.reduceEqDiff, Nat.reduceBEq, Nat.reduceLeDiff, Int.reduceToNat, Int.reduceLT, Int.reduceLE, Int.reduceEq, reduceCtorEq, ↓reduceIte] at w24
    obtain ⟨v34, q32, h⟩ := bnd_some h
    have w33 := e16_3 v25 (eqI a0.quiet 0) (leI 3 a0.state) a0 v34 q32
    simp only [X16_3] at w33
    try simp -implicitDefEqProofs only [go_sem, Nat.reduceLT, Nat.reduceAdd, Nat.reduceSub, Nat.reduceMul, Nat.reduceEqDiff, Nat.reduceBEq, Nat.reduceLeDiff, Int.reduceToNat, Int.reduceLT, Int.reduceLE, Int.reduceEq, reduceCtorEq, ↓reduceIte] at w33
    obtain ⟨v38, q36, h⟩ := bnd_some h
    have w37 := e16_4 v25 v34 v38 q36
    simp only [X16_4] at w37
    try simp -implicitDefEqProofs only [go_sem, Nat.reduceLT, Nat.reduceAdd, Nat.reduceSub, Nat.reduceMul, Nat.reduceEqDiff, Nat.reduceBEq, Nat.reduceLeDiff, Int.reduceToNat, Int.reduceLT, Int.reduceLE, Int.reduceEq, reduceCtorEq, ↓reduceIte] at w37
    cases h
    simp -implicitDefEqProofs only [go_sem, Nat.reduceLT, Nat.reduceAdd, Nat.reduceSub, Nat.reduceMul, Nat.reduceEqDiff, Nat.reduceBEq, Nat.reduceLeDiff, Int.reduceToNat, Int.reduceLT, Int.reduceLE, Int.reduceEq, reduceCtorEq, ↓reduceIte, i16, c16, w13, b15, w24, w33, w37]
  · replace h := br_t b15 h
    cases h
    simp -implicitDefEqProofs only [go_sem, Nat.reduceLT, Nat.reduceAdd, Nat.reduceSub, Nat.reduceMul, Nat.reduceEqDiff, Nat.reduceBEq, Nat.reduceLeDiff, Int.reduceToNat, Int.reduceLT, Int.reduceLE, Int.reduceEq, reduceCtorEq, ↓reduceIte, i16, c16, w13, b15]
-- f9 laws.FnPair
def X9_1 (r4 : Int) (r5 : Int) (r11 : Bool) (r16 : Bool) (r9 : Session) (r10 : Session) (r14 : Session) (r15 : Session) (o : Bool) : Ex × Fr × St :=
  (.normal, frOf 123 (upd (upd (upd (upd (upd (upd anyF 3 (.int .i64 r4)) 4 (.int .i64 r5)) 6 (.ptr 0 0 0)) 7 (.ptr 1 0 0)) 8 (.bool r11)) 53 (.bool o)), [some ⟨.box, 5, [[.int .i64 r9.state, .int .i64 r9.hold, .int .i64 r9.left, .int .i64 r9.quiet, .int .i64 r9.ups]]⟩, some ⟨.box, 5, [[.int .i64 r10.state, .int .i64 r10.hold, .int .i64 r10.left, .int .i64 r10.quiet, .int .i64 r10.ups]]⟩])
theorem e9_1 (r4 : Int) (r5 : Int) (r11 : Bool) (r16 : Bool) (r9 : Session) (r10 : Session) (r14 : Session) (r15 : Session) (o : Bool) (h : m9_1 r11 r16 r9 r10 r14 r15 = some o) : evCL T 0 k9_1 (frOf 123 (upd (upd (upd (upd (upd (upd (upd (upd anyF 3 (.int .i64 r4)) 4 (.int .i64 r5)) 6 (.ptr 0 0 0)) 7 (.ptr 1 0 0)) 8 (.bool r11)) 9 (.ptr 2 0 0)) 10 (.ptr 3 0 0)) 11 (.bool r16))) [some ⟨.box, 5, [[.int .i64 r9.state, .int .i64 r9.hold, .int .i64 r9.left, .int .i64 r9.quiet, .int .i64 r9.ups]]⟩, some ⟨.box, 5, [[.int .i64 r10.state, .int .i64 r10.hold, .int .i64 r10.left, .int .i64 r10.quiet, .int .i64 r10.ups]]⟩, some ⟨.box, 5, [[.int .i64 r14.state, .int .i64 r14.hold, .int .i64 r14.left, .int .i64 r14.quiet, .int .i64 r14.ups]]⟩, some ⟨.box, 5, [[.int .i64 r15.state, .int .i64 r15.hold, .int .i64 r15.left, .int .i64 r15.quiet, .int .i64 r15.ups]]⟩] = some (X9_1 r4 r5 r11 r16 r9 r10 r14 r15 o) := by
  unfold m9_1 at h
  try simp -implicitDefEqProofs only [go_sem, Nat.reduceLT, Nat.reduceAdd, Nat.reduceSub, Nat.reduceMul, Nat.reduceEqDiff, Nat.reduceBEq, Nat.reduceLeDiff, Int.reduceToNat, Int.reduceLT, Int.reduceLE, Int.reduceEq, reduceCtorEq, ↓reduceIte, X9_1, k9_1]
  cases b17 : (eqB r11 r16 : Bool)
  · replace h := br_f b17 h
    cases h
    simp -implicitDefEqProofs only [go_sem, Nat.reduceLT, Nat.reduceAdd, Nat.reduceSub, Nat.reduceMul, Nat.reduceEqDiff, Nat.reduceBEq, Nat.reduceLeDiff, Int.reduceToNat, Int.reduceLT, Int.reduceLE, Int.reduceEq, reduceCtorEq, ↓reduceIte, X9_1, k9_1, b17]
  · replace h := br_t b17 h
    try simp -implicitDefEqProofs only [go_sem, Nat.reduceLT, Nat.reduceAdd, Nat.reduceSub, Nat.reduceMul, Nat.reduceEqDiff, Nat.reduceBEq, Nat.reduceLeDiff, Int.reduceToNat, Int.reduceLT, Int.reduceLE, Int.reduceEq, reduceCtorEq, ↓reduceIte, X9_1, k9_1, b17]
    cases b18 : (eqI r9.state r14.state && (eqI r9.hold r14.hold && (eqI r9.left r14.left && (eqI r9.quiet r14.quiet && eqI r9.ups r14.ups))) : Bool)
    · replace h := br_f b18 h
      cases h
      simp -implicitDefEqProofs only [go_sem, Nat.reduceLT, Nat.reduceAdd, Nat.reduceSub, Nat.reduceMul, Nat.reduceEqDiff, Nat.reduceBEq, Nat.reduceLeDiff, Int.reduceToNat, Int.reduceLT, Int.reduceLE, Int.reduceEq, reduceCtorEq, ↓reduceIte, X9_1, k9_1, b17, b18]
    · replace h := br_t b18 h
      cases h
      simp -implicitDefEqProofs only [go_sem, Nat.reduceLT, Nat.reduceAdd, Nat.reduceSub, Nat.reduceMul, Nat.reduceEqDiff, Nat.reduceBEq, Nat.reduceLeDiff, Int.reduceToNat, Int.reduceLT, Int.reduceLE, Int.reduceEq, reduceCtorEq, ↓reduceIte, X9_1, k9_1, b17, b18]
def X9_2 (r4 : Int) (r5 : Int) (p24 : Bool) (r9 : Session) (r10 : Session) (o : Int) : Ex × Fr × St :=
  (.normal, frOf 123 (upd (upd (upd (upd (upd anyF 3 (.int .i64 r4)) 4 (.int .i64 r5)) 6 (.ptr 0 0 0)) 7 (.ptr 1 0 0)) 12 (.int .i64 o)), [some ⟨.box, 5, [[.int .i64 r9.state, .int .i64 r9.hold, .int .i64 r9.left, .int .i64 r9.quiet, .int .i64 r9.ups]]⟩, some ⟨.box, 5, [[.int .i64 r10.state, .int .i64 r10.hold, .int .i64 r10.left, .int .i64 r10.quiet, .int .i64 r10.ups]]⟩])
theorem e9_2 (r4 : Int) (r5 : Int) (p24 : Bool) (r9 : Session) (r10 : Session) (o : Int) (h : m9_2 r4 r5 p24 = some o) : evCL T 0 k9_2 (frOf 123 (upd (upd (upd (upd (upd (upd anyF 3 (.int .i64 r4)) 4 (.int .i64 r5)) 6 (.ptr 0 0 0)) 7 (.ptr 1 0 0)) 12 (.int .i64 r4)) 62 (.bool p24))) [some ⟨.box, 5, [[.int .i64 r9.state, .int .i64 r9.hold, .int .i64 r9.left, .int .i64 r9.quiet, .int .i64 r9.ups]]⟩, some ⟨.box, 5, [[.int .i64 r10.state, .int .i64 r10.hold, .int .i64 r10.left, .int .i64 r10.quiet, .int .i64 r10.ups]]⟩] = some (X9_2 r4 r5 p24 r9 r10 o) := by
  unfold m9_2 at h
  try simp -implicitDefEqProofs only [go_sem, Nat.reduceLT, Nat.reduceAdd, Nat.reduceSub, Nat.reduceMul, Nat.reduceEqDiff, Nat.reduceBEq, Nat.reduceLeDiff, Int.reduceToNat, Int.reduceLT, Int.reduceLE, Int.reduceEq, reduceCtorEq, ↓reduceIte, X9_2, k9_2]
  cases b25 : (p24 : Bool)
  · replace h := br_f b25 h
    cases h
    simp -implicitDefEqProofs only [go_sem, Nat.reduceLT, Nat.reduceAdd, Nat.reduceSub, Nat.reduceMul, Nat.reduceEqDiff, Nat.reduceBEq, Nat.reduceLeDiff, Int.reduceToNat, Int.reduceLT, Int.reduceLE, Int.reduceEq, reduceCtorEq, ↓reduceIte, X9_2, k9_2, b25]
  · replace h := br_t b25 h
    cases h
    simp -implicitDefEqProofs only [go_sem, Nat.reduceLT, Nat.reduceAdd, Nat.reduceSub, Nat.reduceMul, Nat.reduceEqDiff, Nat.reduceBEq, Nat.reduceLeDiff, Int.reduceToNat, Int.reduceLT, Int.reduceLE, Int.reduceEq, reduceCtorEq, ↓reduceIte, X9_2, k9_2, b25]
def X9_3 (r4 : Int) (r5 : Int) (v28 : Int) (r9 : Session) (r10 : Session) (o : Bool) : Ex × Fr × St :=
  (.normal, frOf 123 (upd (upd (upd anyF 3 (.int .i64 r4)) 4 (.int .i64 r5)) 93 (.bool o)), [])
theorem e9_3 (r4 : Int) (r5 : Int) (v28 : Int) (r9 : Session) (r10 : Session) (o : Bool) (h : m9_3 v28 r9 r10 = some o) : evCL T 0 k9_3 (frOf 123 (upd (upd (upd (upd (upd anyF 3 (.int .i64 r4)) 4 (.int .i64 r5)) 6 (.ptr 0 0 0)) 7 (.ptr 1 0 0)) 12 (.int .i64 v28))) [some ⟨.box, 5, [[.int .i64 r9.state, .int .i64 r9.hold, .int .i64 r9.left, .int .i64 r9.quiet, .int .i64 r9.ups]]⟩, some ⟨.box, 5, [[.int .i64 r10.state, .int .i64 r10.hold, .int .i64 r10.left, .int .i64 r10.quiet, .int .i64 r10.ups]]⟩] = some (X9_3 r4 r5 v28 r9 r10 o) := by
  unfold m9_3 at h
  obtain ⟨r31, q29, h⟩ := bnd_some h
  have w30 := e16 r9 r31 q29
  try simp -implicitDefEqProofs only [go_sem, Nat.reduceLT, Nat.reduceAdd, Nat.reduceSub, Nat.reduceMul, Nat.reduceEqDiff, Nat.reduceBEq, Nat.reduceLeDiff, Int.reduceToNat, Int.reduceLT, Int.reduceLE, Int.reduceEq, reduceCtorEq, ↓reduceIte] at w30
  try simp -implicitDefEqProofs only [go_sem, Nat.reduceLT, Nat.reduceAdd, Nat.reduceSub, Nat.reduceMul, Nat.reduceEqDiff, Nat.reduceBEq, Nat.reduceLeDiff, Int.reduceToNat, Int.reduceLT, Int.reduceLE, Int.reduceEq, reduceCtorEq, ↓reduceIte, X9_3, k9_3, w30]
  cases b32 : (r31 : Bool)
  · replace h := br_f b32 h
    cases h
    simp -implicitDefEqProofs only [go_sem, Nat.reduceLT, Nat.reduceAdd, Nat.reduceSub, Nat.reduceMul, Nat.reduceEqDiff, Nat.reduceBEq, Nat.reduceLeDiff, Int.reduceToNat, Int.reduceLT, Int.reduceLE, Int.reduceEq, reduceCtorEq, ↓reduceIte, X9_3, k9_3, w30, b32]
  · replace h := br_t b32 h
    obtain ⟨r35, q33, h⟩ := bnd_some h
    have w34 := e16 r10 r35 q33
    try simp -implicitDefEqProofs only [go_sem, Nat.reduceLT, Nat.reduceAdd, Nat.reduceSub, Nat.reduceMul, Nat.reduceEqDiff, Nat.reduceBEq, Nat.reduceLeDiff, Int.reduceToNat, Int.reduceLT, Int.reduceLE, Int.reduceEq, reduceCtorEq, ↓reduceIte] at w34
    try simp -implicitDefEqProofs only [go_sem, Nat.reduceLT, Nat.reduceAdd, Nat.reduceSub, Nat.reduceMul, Nat.reduceEqDiff, Nat.reduceBEq, Nat.reduceLeDiff, Int.reduceToNat, Int.reduceLT, Int.reduceLE, Int.reduceEq, reduceCtorEq, ↓reduceIte, X9_3, k9_3, w30, b32, w34]
    cases b36 : (r35 : Bool)
    · replace h := br_f b36 h
      cases h
      simp -implicitDefEqProofs only [go_sem, Nat.reduceLT, Nat.reduceAdd, Nat.reduceSub, Nat.reduceMul, Nat.reduceEqDiff, Nat.reduceBEq, Nat.reduceLeDiff, Int.reduceToNat, Int.reduceLT, Int.reduceLE, Int.reduceEq, reduceCtorEq, ↓reduceIte, X9_3, k9_3, w30, b32, w34, b36]
    · replace h := br_t b36 h
      try simp -implicitDefEqProofs only [go_sem, Nat.reduceLT, Nat.reduceAdd, Nat.reduceSub, Nat.reduceMul, Nat.reduceEqDiff, Nat.reduceBEq, Nat.reduceLeDiff, Int.reduceToNat, Int.reduceLT, Int.reduceLE, Int.reduceEq, reduceCtorEq, ↓reduceIte, X9_3, k9_3, w30, b32, w34, b36]
      cases b37 : (eqI r9.state 4 : Bool)
      · replace h := br_f b37 h
        try simp -implicitDefEqProofs only [go_sem, Nat.reduceLT, Nat.reduceAdd, Nat.reduceSub, Nat.reduceMul, Nat.reduceEqDiff, Nat.reduceBEq, Nat.reduceLeDiff, Int.reduceToNat, Int.reduceLT, Int.reduceLE, Int.reduceEq, reduceCtorEq, ↓reduceIte, X9_3, k9_3, w30, b32, w34, b36, b37]
        cases b40 : (eqI r10.state 4 : Bool)
        · replace h := br_f b40 h
          cases h
          simp -implicitDefEqProofs only [go_sem, Nat.reduceLT, Nat.reduceAdd, Nat.reduceSub, Nat.reduceMul, Nat.reduceEqDiff, Nat.reduceBEq, Nat.reduceLeDiff, Int.reduceToNat, Int.reduceLT, Int.reduceLE, Int.reduceEq, reduceCtorEq, ↓reduceIte, X9_3, k9_3, w30, b32, w34, b36, b37, b40]
        · replace h := br_t b40 h
          cases h
          simp -implicitDefEqProofs only [go_sem, Nat.reduceLT, Nat.reduceAdd, Nat.reduceSub, Nat.reduceMul, Nat.reduceEqDiff, Nat.reduceBEq, Nat.reduceLeDiff, Int.reduceToNat, Int.reduceLT, Int.reduceLE, Int.reduceEq, reduceCtorEq, ↓reduceIte, X9_3, k9_3, w30, b32, w34, b36, b37, b40]
      · replace h := br_t b37 h
        try simp -implicitDefEqProofs only [go_sem, Nat.reduceLT, Nat.reduceAdd, Nat.reduceSub, Nat.reduceMul, Nat.reduceEqDiff, Nat.reduceBEq, Nat.reduceLeDiff, Int.reduceToNat, Int.reduceLT, Int.reduceLE, Int.reduceEq, reduceCtorEq, ↓reduceIte, X9_3, k9_3, w30, b32, w34, b36, b37]
        cases b38 : (eqI r9.hold v28 : Bool)
        · replace h := br_f b38 h
          cases h
          simp -implicitDefEqProofs only [go_sem, Nat.reduceLT, Nat.reduceAdd, Nat.reduceSub, Nat.reduceMul, Nat.reduceEqDiff, Nat.reduceBEq, Nat.reduceLeDiff, Int.reduceToNat, Int.reduceLT, Int.reduceLE, Int.reduceEq, reduceCtorEq, ↓reduceIte, X9_3, k9_3, w30, b32, w34, b36, b37, b38]
        · replace h := br_t b38 h
          try simp -implicitDefEqProofs only [go_sem, Nat.reduceLT, Nat.reduceAdd, Nat.reduceSub, Nat.reduceMul, Nat.reduceEqDiff, Nat.reduceBEq, Nat.reduceLeDiff, Int.reduceToNat, Int.reduceLT, Int.reduceLE, Int.reduceEq, reduceCtorEq, ↓reduceIte, X9_3, k9_3, w30, b32, w34, b36, b37, b38]
          cases b39 : (eqI r10.state 4 : Bool)
          · replace h := br_f b39 h
            cases h
            simp -implicitDefEqProofs only [go_sem, Nat.reduceLT, Nat.reduceAdd, Nat.reduceSub, Nat.reduceMul, Nat.reduceEqDiff, Nat.reduceBEq, Nat.reduceLeDiff, Int.reduceToNat, Int.reduceLT, Int.reduceLE, Int.reduceEq, reduceCtorEq, ↓reduceIte, X9_3, k9_3, w30, b32, w34, b36, b37, b38, b39]
          · replace h := br_t b39 h
            cases h
            simp -implicitDefEqProofs only [go_sem, Nat.reduceLT, Nat.reduceAdd, Nat.reduceSub, Nat.reduceMul, Nat.reduceEqDiff, Nat.reduceBEq, Nat.reduceLeDiff, Int.reduceToNat, Int.reduceLT, Int.reduceLE, Int.reduceEq, reduceCtorEq, ↓reduceIte, X9_3, k9_3, w30, b32, w34, b36, b37, b38, b39]
def X9_4 (r49 : Bool) (r47 : Session) (r48 : Session) (o : Bool) : Ex × Fr × St :=
  (.normal, frOf 123 (upd anyF 2 (.bool o)), [])
theorem e9_4 (r49 : Bool) (r47 : Session) (r48 : Session) (o : Bool) (h : m9_4 r49 r47 r48 = some o) : evCL T 0 k9_4 (frOf 123 (upd (upd (upd anyF 13 (.ptr 0 0 0)) 14 (.ptr 1 0 0)) 15 (.bool r49))) [some ⟨.box, 5, [[.int .i64 r47.state, .int .i64 r47.hold, .int .i64 r47.left, .int .i64 r47.quiet, .int .i64 r47.ups]]⟩, some ⟨.box, 5, [[.int .i64 r48.state, .int .i64 r48.hold, .int .i64 r48.left, .int .i64 r48.quiet, .int .i64 r48.ups]]⟩] = some (X9_4 r49 r47 r48 o) := by
  unfold m9_4 at h
  try simp -implicitDefEqProofs only [go_sem, Nat.reduceLT, Nat.reduceAdd, Nat.reduceSub, Nat.reduceMul, Nat.reduceEqDiff, Nat.reduceBEq, Nat.reduceLeDiff, Int.reduceToNat, Int.reduceLT, Int.reduceLE, Int.reduceEq, reduceCtorEq, ↓reduceIte, X9_4, k9_4]
  cases b50 : (r49 : Bool)
  · replace h := br_f b50 h
    cases h
    simp -implicitDefEqProofs only [go_sem, Nat.reduceLT, Nat.reduceAdd, Nat.reduceSub, Nat.reduceMul, Nat.reduceEqDiff, Nat.reduceBEq, Nat.reduceLeDiff, Int.reduceToNat, Int.reduceLT, Int.reduceLE, Int.reduceEq, reduceCtorEq, ↓reduceIte, X9_4, k9_4, b50]
  · replace h := br_t b50 h
    try simp -implicitDefEqProofs only [go_sem, Nat.reduceLT, Nat.reduceAdd, Nat.reduceSub, Nat.reduceMul, Nat.reduceEqDiff, Nat.reduceBEq, Nat.reduceLeDiff, Int.reduceToNat, Int.reduceLT, Int.reduceLE, Int.reduceEq, reduceCtorEq, ↓reduceIte, X9_4, k9_4, b50]
    cases b51 : (eqI r47.state 4 : Bool)
    · replace h := br_f b51 h
      cases h
      simp -implicitDefEqProofs only [go_sem, Nat.reduceLT, Nat.reduceAdd, Nat.reduceSub, Nat.reduceMul, Nat.reduceEqDiff, Nat.reduceBEq, Nat.reduceLeDiff, Int.reduceToNat, Int.reduceLT, Int.reduceLE, Int.reduceEq, reduceCtorEq, ↓reduceIte, X9_4, k9_4, b50, b51]
    · replace h := br_t b51 h
      try simp -implicitDefEqProofs only [go_sem, Nat.reduceLT, Nat.reduceAdd, Nat.reduceSub, Nat.reduceMul, Nat.reduceEqDiff, Nat.reduceBEq, Nat.reduceLeDiff, Int.reduceToNat, Int.reduceLT, Int.reduceLE, Int.reduceEq, reduceCtorEq, ↓reduceIte, X9_4, k9_4, b50, b51]
      cases b52 : (eqI r48.state 4 : Bool)
      · replace h := br_f b52 h
        cases h
        simp -implicitDefEqProofs only [go_sem, Nat.reduceLT, Nat.reduceAdd, Nat.reduceSub, Nat.reduceMul, Nat.reduceEqDiff, Nat.reduceBEq, Nat.reduceLeDiff, Int.reduceToNat, Int.reduceLT, Int.reduceLE, Int.reduceEq, reduceCtorEq, ↓reduceIte, X9_4, k9_4, b50, b51, b52]
      · replace h := br_t b52 h
        try simp -implicitDefEqProofs only [go_sem, Nat.reduceLT, Nat.reduceAdd, Nat.reduceSub, Nat.reduceMul, Nat.reduceEqDiff, Nat.reduceBEq, Nat.reduceLeDiff, Int.reduceToNat, Int.reduceLT, Int.reduceLE, Int.reduceEq, reduceCtorEq, ↓reduceIte, X9_4, k9_4, b50, b51, b52]
        cases b53 : (eqI r47.ups 1 : Bool)
        · replace h := br_f b53 h
          cases h
          simp -implicitDefEqProofs only [go_sem, Nat.reduceLT, Nat.reduceAdd, Nat.reduceSub, Nat.reduceMul, Nat.reduceEqDiff, Nat.reduceBEq, Nat.reduceLeDiff, Int.reduceToNat, Int.reduceLT, Int.reduceLE, Int.reduceEq, reduceCtorEq, ↓reduceIte, X9_4, k9_4, b50, b51, b52, b53]
        · replace h := br_t b53 h
          cases h
          simp -implicitDefEqProofs only [go_sem, Nat.reduceLT, Nat.reduceAdd, Nat.reduceSub, Nat.reduceMul, Nat.reduceEqDiff, Nat.reduceBEq, Nat.reduceLeDiff, Int.reduceToNat, Int.reduceLT, Int.reduceLE, Int.reduceEq, reduceCtorEq, ↓reduceIte, X9_4, k9_4, b50, b51, b52, b53]
theorem call9 (args : List AV) (S : St) : evCall T (evFL T) 9 args S = lendC (evFL T 9) S (lendAll S [[1]] args) := evCall0 fn9 rfl rfl args S
theorem callz9 (args : List AV) (S : St) : evCallFz T (evFL T) 9 args S = lendZ (evFL T 9) S [[0]] (lendAll S [[1]] args) := evCallFz0 fn9 rfl rfl args S
attribute [go_sem] call9 callz9
theorem e9 (a0 : (List Int)) (r : Bool) (h : m9 a0 = some r) : evFL T 9 [.ts .imm 1 (a0.map encIntu8)] [] = some (.bool r, []) := by
  unfold m9 at h
  rw [evFL_at fn9 (Nat.le_of_ble_eq_true rfl) rfl (.inr rfl)]
  try simp -implicitDefEqProofs only [go_sem, Nat.reduceLT, Nat.reduceAdd, Nat.reduceSub, Nat.reduceMul, Nat.reduceEqDiff, Nat.reduceBEq, Nat.reduceLeDiff, Int.reduceToNat, Int.reduceLT, Int.reduceLE, Int.reduceEq, reduceCtorEq, ↓reduceIte, i9, c9]
  cases b1 : (ltI 1048576 (↑a0.length : Int) : Bool)
  · replace h := br_f b1 h
    obtain ⟨⟨r4, r5, r6⟩, q2, h⟩ := bnd_some h
    replace h := sel3_some h
    have w3 := e34 a0 (r4, r5, r6) q2
    try simp -implicitDefEqProofs only [go_sem, Nat.reduceLT, Nat.reduceAdd, Nat.reduceSub, Nat.reduceMul, Nat.reduceEqDiff, Nat.reduceBEq, Nat.reduceLeDiff, Int.reduceToNat, Int.reduceLT, Int.reduceLE, Int.reduceEq, reduceCtorEq, ↓reduceIte] at w3
    obtain ⟨⟨r9, r10, r11⟩, q7, h⟩ := bnd_some h
    replace h := sel3_some h
    have w8 := e33 r4 r5 r6 (r9, r10, r11) q7
    try simp -implicitDefEqProofs only [go_sem, Nat.reduceLT, Nat.reduceAdd, Nat.reduceSub, Nat.reduceMul, Nat.reduceEqDiff, Nat.reduceBEq, Nat.reduceLeDiff, Int.reduceToNat, Int.reduceLT, Int.reduceLE, Int.reduceEq, reduceCtorEq, ↓reduceIte] at w8
    obtain ⟨⟨r14, r15, r16⟩, q12, h⟩ := bnd_some h
    replace h := sel3_some h
    have w13 := e31 r4 r5 r6 (r14, r15, r16) q12
    try simp -implicitDefEqProofs only [go_sem, Nat.reduceLT, Nat.reduceAdd, Nat.reduceSub, Nat.reduceMul, Nat.reduceEqDiff, Nat.reduceBEq, Nat.reduceLeDiff, Int.reduceToNat, Int.reduceLT, Int.reduceLE, Int.reduceEq, reduceCtorEq, ↓reduceIte] at w13
    obtain ⟨v21, q19, h⟩ := bnd_some h
    have w20 := e9_1 r4 r5 r11 r16 r9 r10 r14 r15 v21 q19
    simp only [X9_1] at w20
    try simp -implicitDefEqProofs only [go_sem, Nat.reduceLT, Nat.reduceAdd, Nat.reduceSub, Nat.reduceMul, Nat.reduceEqDiff, Nat.reduceBEq, Nat.reduceLeDiff, Int.reduceToNat, Int.reduceLT, Int.reduceLE, Int.reduceEq, reduceCtorEq, ↓reduceIte] at w20
    try simp -implicitDefEqProofs only [go_sem, Nat.reduceLT, Nat.reduceAdd, Nat.reduceSub, Nat.reduceMul, Nat.reduceEqDiff, Nat.reduceBEq, Nat.reduceLeDiff, Int.reduceToNat, Int.reduceLT, Int.reduceLE, Int.reduceEq, reduceCtorEq, ↓reduceIte, i9, c9, b1, w3, w8, w13, w20]
    cases b22 : (v21 : Bool)
    · replace h := br_f b22 h
      try simp -implicitDefEqProofs only [go_sem, Nat.reduceLT, Nat.reduceAdd, Nat.reduceSub, Nat.reduceMul, Nat.reduceEqDiff, Nat.reduceBEq, Nat.reduceLeDiff, Int.reduceToNat, Int.reduceLT, Int.reduceLE, Int.reduceEq, reduceCtorEq, ↓reduceIte, i9, c9, b1, w3, w8, w13, w20, b22]
      cases b23 : (r11 : Bool)
      · replace h := br_f b23 h
        cases h
        simp -implicitDefEqProofs only [go_sem, Nat.reduceLT, Nat.reduceAdd, Nat.reduceSub, Nat.reduceMul, Nat.reduceEqDiff, Nat.reduceBEq, Nat.reduceLeDiff, Int.reduceToNat, Int.reduceLT, Int.reduceLE, Int.reduceEq, reduceCtorEq, ↓reduceIte, i9, c9, b1, w3, w8, w13, w20, b22, b23]
      · replace h := br_t b23 h
        obtain ⟨v28, q26, h⟩ := bnd_some h
        have w27 := e9_2 r4 r5 (ltI r5 r4) r9 r10 v28 q26
        simp only [X9_2] at w27
        try simp -implicitDefEqProofs only [go_sem, Nat.reduceLT, Nat.reduceAdd, Nat.reduceSub, Nat.reduceMul, Nat.reduceEqDiff, Nat.reduceBEq, Nat.reduceLeDiff, Int.reduceToNat, Int.reduceLT, Int.reduceLE, Int.reduceEq, reduceCtorEq, ↓reduceIte] at w27
        obtain ⟨v43, q41, h⟩ := bnd_some h
        have w42 := e9_3 r4 r5 v28 r9 r10 v43 q41
        simp only [X9_3] at w42
        try simp -implicitDefEqProofs only [go_sem, Nat.reduceLT, Nat.reduceAdd, Nat.reduceSub, Nat.reduceMul, Nat.reduceEqDiff, Nat.reduceBEq, Nat.reduceLeDiff, Int.reduceToNat, Int.reduceLT, Int.reduceLE, Int.reduceEq, reduceCtorEq, ↓reduceIte] at w42
        try simp -implicitDefEqProofs only [go_sem, Nat.reduceLT, Nat.reduceAdd, Nat.reduceSub, Nat.reduceMul, Nat.reduceEqDiff, Nat.reduceBEq, Nat.reduceLeDiff, Int.reduceToNat, Int.reduceLT, Int.reduceLE, Int.reduceEq, reduceCtorEq, ↓reduceIte, i9, c9, b1, w3, w8, w13, w20, b22, b23, w27, w42]
        cases b44 : (v43 : Bool)
        · replace h := br_f b44 h
          obtain ⟨⟨r47, r48, r49⟩, q45, h⟩ := bnd_some h
          replace h := sel3_some h
          have w46 := e33 r4 r5 [1, 2, 1, 2] (r47, r48, r49) q45
          try simp -implicitDefEqProofs only [go_sem, Nat.reduceLT, Nat.reduceAdd, Nat.reduceSub, Nat.reduceMul, Nat.reduceEqDiff, Nat.reduceBEq, Nat.reduceLeDiff, Int.reduceToNat, Int.reduceLT, Int.reduceLE, Int.reduceEq, reduceCtorEq, ↓reduceIte] at w46
          obtain ⟨v56, q54, h⟩ := bnd_some h
          have w55 := e9_4 r49 r47 r48 v56 q54
          simp only [X9_4] at w55
          try simp -implicitDefEqProofs only [go_sem, Nat.reduceLT, Nat.reduceAdd, Nat.reduceSub, Nat.reduceMul, Nat.reduceEqDiff, Nat.reduceBEq, Nat.reduceLeDiff, Int.reduceToNat, Int.reduceLT, Int.reduceLE, Int.reduceEq, reduceCtorEq, ↓reduceIte] at w55
          cases h
          simp -implicitDefEqProofs only [go_sem, Nat.reduceLT, Nat.reduceAdd, Nat.reduceSub, Nat.reduceMul, Nat.reduceEqDiff, Nat.reduceBEq, Nat.reduceLeDiff, Int.reduceToNat, Int.reduceLT, Int.reduceLE, Int.reduceEq, reduceCtorEq, ↓reduceIte, i9, c9, b1, w3, w8, w13, w20, b22, b23, w27, w42, b44, w46, w55]
        · replace h := br_t b44 h
          cases h
          simp -implicitDefEqProofs only [go_sem, Nat.reduceLT, Nat.reduceAdd, Nat.reduceSub, Nat.reduceMul, Nat.reduceEqDiff, Nat.reduceBEq, Nat.reduceLeDiff, Int.reduceToNat, Int.reduceLT, Int.reduceLE, Int.reduceEq, reduceCtorEq, ↓reduceIte, i9, c9, b1, w3, w8, w13, w20, b22, b23, w27, w42, b44]
    · replace h := br_t b22 h
      cases h
      simp -implicitDefEqProofs only [go_sem, Nat.reduceLT, Nat.reduceAdd, Nat.reduceSub, Nat.reduceMul, Nat.reduceEqDiff, Nat.reduceBEq, Nat.reduceLeDiff, Int.reduceToNat, Int.reduceLT, Int.reduceLE, Int.reduceEq, reduceCtorEq, ↓reduceIte, i9, c9, b1, w3, w8, w13, w20, b22]
  · replace h := br_t b1 h
    cases h
    simp -implicitDefEqProofs only [go_sem, Nat.reduceLT, Nat.reduceAdd, Nat.reduceSub, Nat.reduceMul, Nat.reduceEqDiff, Nat.reduceBEq, Nat.reduceLeDiff, Int.reduceToNat, Int.reduceLT, Int.reduceLE, Int.reduceEq, reduceCtorEq, ↓reduceIte, i9, c9, b1]
end Go.Pi.Ytcihklkihglmjaa.Pair
