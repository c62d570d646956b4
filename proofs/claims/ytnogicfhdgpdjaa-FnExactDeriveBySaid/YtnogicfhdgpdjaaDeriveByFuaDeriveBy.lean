/- What functions of the program answer, and that the law answers true at every input; no condition -/
import Derived.Test.YtnogicfhdgpdjaaDeriveByTabDeriveBy
import Derived.Test.YtnogicfhdgpdjaaDeriveByModDeriveBy
set_option linter.all false
/- Functions of the program: that the code answers as the plain functions do. -/
namespace Go.Pi.Ytnogicfhdgpdjaa.DeriveBy
open Go Go.Proofs Go.Pi
set_option maxRecDepth 100000
set_option linter.all false
noncomputable def encInt (x : Int) : List AV := [.int .i64 x]
attribute [go_sem] encInt
theorem sq_encInt (q : Ql) (x : Int) : setQL q (encInt x) = encInt x := by simp [encInt]
theorem sqm_encInt (q : Ql) (xs : List Int) : setQLL q (xs.map encInt) = xs.map encInt := by rw [setQLL_map]; exact List.map_congr_left (fun x _ => sq_encInt q x)
theorem ow_encInt (x : Int) : ownOnlyL (encInt x) = true := by simp [encInt, ownOnlyL, ownOnly, ownLL_map]
theorem owm_encInt (xs : List Int) : ownOnlyLL (xs.map encInt) = true := ownLL_map _ ow_encInt xs
theorem fi_encInt (x : Int) : fine.fineL (encInt x) = true := by simp [encInt, fine.fineL, fine, fineLL_map]
theorem fim_encInt (xs : List Int) : fine.fineLL (xs.map encInt) = true := fineLL_map _ fi_encInt xs
theorem nu_encInt (x : Int) : nude.nudeL (encInt x) = true := by simp [encInt, nude.nudeL, nude, nudeLL_map]
theorem num_encInt (xs : List Int) : nude.nudeLL (xs.map encInt) = true := nudeLL_map _ nu_encInt xs
theorem st_encInt (q : Ql) (xs : List Int) : (xs.map encInt).map (fun x => x.map (setTop q)) = xs.map encInt := by rw [List.map_map]; rfl
attribute [go_sem] st_encInt
attribute [simp] sqm_encInt ow_encInt owm_encInt fi_encInt fim_encInt nu_encInt num_encInt
attribute [go_sem] sqm_encInt owm_encInt fim_encInt num_encInt
noncomputable def encReCell (x : ReCell) : List AV := [.int .i64 x.kind, .int .i64 x.n]
attribute [go_sem] encReCell
theorem sq_encReCell (q : Ql) (x : ReCell) : setQL q (encReCell x) = encReCell x := by simp [encReCell]
theorem sqm_encReCell (q : Ql) (xs : List ReCell) : setQLL q (xs.map encReCell) = xs.map encReCell := by rw [setQLL_map]; exact List.map_congr_left (fun x _ => sq_encReCell q x)
theorem ow_encReCell (x : ReCell) : ownOnlyL (encReCell x) = true := by simp [encReCell, ownOnlyL, ownOnly, ownLL_map]
theorem owm_encReCell (xs : List ReCell) : ownOnlyLL (xs.map encReCell) = true := ownLL_map _ ow_encReCell xs
theorem fi_encReCell (x : ReCell) : fine.fineL (encReCell x) = true := by simp [encReCell, fine.fineL, fine, fineLL_map]
theorem fim_encReCell (xs : List ReCell) : fine.fineLL (xs.map encReCell) = true := fineLL_map _ fi_encReCell xs
theorem nu_encReCell (x : ReCell) : nude.nudeL (encReCell x) = true := by simp [encReCell, nude.nudeL, nude, nudeLL_map]
theorem num_encReCell (xs : List ReCell) : nude.nudeLL (xs.map encReCell) = true := nudeLL_map _ nu_encReCell xs
theorem st_encReCell (q : Ql) (xs : List ReCell) : (xs.map encReCell).map (fun x => x.map (setTop q)) = xs.map encReCell := by rw [List.map_map]; rfl
attribute [go_sem] st_encReCell
attribute [simp] sqm_encReCell ow_encReCell owm_encReCell fi_encReCell fim_encReCell nu_encReCell num_encReCell
attribute [go_sem] sqm_encReCell owm_encReCell fim_encReCell num_encReCell
noncomputable def encLReCell (q : Ql) (x : (List ReCell)) : List AV := [.ts q 2 (x.map encReCell)]
attribute [go_sem] encLReCell
theorem sq_encLReCell (q q1 : Ql) (x : (List ReCell)) : setQL q (encLReCell q1 x) = encLReCell q x := by simp [encLReCell, sq_encReCell]
theorem sqm_encLReCell (q q1 : Ql) (xs : List (List ReCell)) : setQLL q (xs.map (encLReCell q1)) = xs.map (encLReCell q) := by rw [setQLL_map]; exact List.map_congr_left (fun x _ => sq_encLReCell q q1 x)
theorem ow_encLReCell (x : (List ReCell)) : ownOnlyL (encLReCell .own x) = true := by simp [encLReCell, ownOnlyL, ownOnly, ownLL_map]
theorem owm_encLReCell (xs : List (List ReCell)) : ownOnlyLL (xs.map (encLReCell .own)) = true := ownLL_map _ ow_encLReCell xs
theorem fi_encLReCell (x : (List ReCell)) : fine.fineL (encLReCell .own x) = true := by simp [encLReCell, fine.fineL, fine, fineLL_map]
theorem fim_encLReCell (xs : List (List ReCell)) : fine.fineLL (xs.map (encLReCell .own)) = true := fineLL_map _ fi_encLReCell xs
theorem nu_encLReCell (x : (List ReCell)) : nude.nudeL (encLReCell .own x) = true := by simp [encLReCell, nude.nudeL, nude, nudeLL_map]
theorem num_encLReCell (xs : List (List ReCell)) : nude.nudeLL (xs.map (encLReCell .own)) = true := nudeLL_map _ nu_encLReCell xs
theorem st_encLReCell (q q1 : Ql) (xs : List (List ReCell)) : (xs.map (encLReCell q1)).map (fun x => x.map (setTop q)) = xs.map (encLReCell q) := by rw [List.map_map]; rfl
theorem fii_encLReCell (xs : List (List ReCell)) : fine.fineLL (xs.map (encLReCell .imm)) = true := fineLL_map _ (fun x => by simp [encLReCell, fine.fineL, fine]) xs
attribute [go_sem] fii_encLReCell
attribute [go_sem] st_encLReCell
attribute [simp] sqm_encLReCell ow_encLReCell owm_encLReCell fi_encLReCell fim_encLReCell nu_encLReCell num_encLReCell
attribute [go_sem] sqm_encLReCell owm_encLReCell fim_encLReCell num_encLReCell
noncomputable def encBool (x : Bool) : List AV := [.bool x]
attribute [go_sem] encBool
theorem sq_encBool (q : Ql) (x : Bool) : setQL q (encBool x) = encBool x := by simp [encBool]
theorem sqm_encBool (q : Ql) (xs : List Bool) : setQLL q (xs.map encBool) = xs.map encBool := by rw [setQLL_map]; exact List.map_congr_left (fun x _ => sq_encBool q x)
theorem ow_encBool (x : Bool) : ownOnlyL (encBool x) = true := by simp [encBool, ownOnlyL, ownOnly, ownLL_map]
theorem owm_encBool (xs : List Bool) : ownOnlyLL (xs.map encBool) = true := ownLL_map _ ow_encBool xs
theorem fi_encBool (x : Bool) : fine.fineL (encBool x) = true := by simp [encBool, fine.fineL, fine, fineLL_map]
theorem fim_encBool (xs : List Bool) : fine.fineLL (xs.map encBool) = true := fineLL_map _ fi_encBool xs
theorem nu_encBool (x : Bool) : nude.nudeL (encBool x) = true := by simp [encBool, nude.nudeL, nude, nudeLL_map]
theorem num_encBool (xs : List Bool) : nude.nudeLL (xs.map encBool) = true := nudeLL_map _ nu_encBool xs
theorem st_encBool (q : Ql) (xs : List Bool) : (xs.map encBool).map (fun x => x.map (setTop q)) = xs.map encBool := by rw [List.map_map]; rfl
attribute [go_sem] st_encBool
attribute [simp] sqm_encBool ow_encBool owm_encBool fi_encBool fim_encBool nu_encBool num_encBool
attribute [go_sem] sqm_encBool owm_encBool fim_encBool num_encBool
noncomputable def encl6T (q : Ql) (x : l6T) : List AV := l6T.rec (motive_1 := fun _ => List AV) (motive_2 := fun _ => List (List AV)) (fun kind_ n_ kids_ h_kids_ => [AV.int .i64 kind_, AV.int .i64 n_, AV.ts q 3 h_kids_]) [] (fun _ _ h1 h2 => h1 :: h2) x
theorem encml6T (q : Ql) (xs : List l6T) : l6T.rec_1 (motive_1 := fun _ => List AV) (motive_2 := fun _ => List (List AV)) (fun kind_ n_ kids_ h_kids_ => [AV.int .i64 kind_, AV.int .i64 n_, AV.ts q 3 h_kids_]) [] (fun _ _ h1 h2 => h1 :: h2) xs = xs.map (encl6T q) := by
  induction xs with
  | nil => rfl
  | cons x r ih => rw [List.map_cons, ← ih]; rfl
theorem encel6T (q : Ql) (kind_ : Int) (n_ : Int) (kids_ : (List l6T)) : encl6T q (.mk kind_ n_ kids_) = [AV.int .i64 kind_, AV.int .i64 n_, AV.ts q 3 (kids_.map (encl6T q))] := by
  show [AV.int .i64 kind_, AV.int .i64 n_, AV.ts q 3 (l6T.rec_1 (motive_1 := fun _ => List AV) (motive_2 := fun _ => List (List AV)) (fun kind_ n_ kids_ h_kids_ => [AV.int .i64 kind_, AV.int .i64 n_, AV.ts q 3 h_kids_]) [] (fun _ _ h1 h2 => h1 :: h2) kids_)] = _
  rw [encml6T]
theorem encxl6T (q : Ql) (x : l6T) : encl6T q x = [AV.int .i64 x.kind_, AV.int .i64 x.n_, AV.ts q 3 (x.kids_.map (encl6T q))] := by cases x; exact encel6T q _ _ _
theorem l6T.kind__mk (kind_ : Int) (n_ : Int) (kids_ : (List l6T)) : (l6T.mk kind_ n_ kids_).kind_ = kind_ := rfl
theorem l6T.n__mk (kind_ : Int) (n_ : Int) (kids_ : (List l6T)) : (l6T.mk kind_ n_ kids_).n_ = n_ := rfl
theorem l6T.kids__mk (kind_ : Int) (n_ : Int) (kids_ : (List l6T)) : (l6T.mk kind_ n_ kids_).kids_ = kids_ := rfl
attribute [go_sem] encxl6T l6T.kind__mk l6T.n__mk l6T.kids__mk
theorem sq_encl6T' : ∀ x : l6T, ∀ q q1 : Ql, setQL q (encl6T q1 x) = encl6T q x := by
  intro x
  refine l6T.rec (motive_1 := fun x => ∀ q q1 : Ql, setQL q (encl6T q1 x) = encl6T q x) (motive_2 := fun x => ∀ q q1 : Ql, setQLL q (x.map (encl6T q1)) = x.map (encl6T q)) ?_ ?_ ?_ x
  · intro kind_ n_ kids_ h_kids_; intro q q1; rw [encel6T, encel6T]; simp [h_kids_]
  · intro q q1; rfl
  · intro x r h1 h2; intro q q1; rw [List.map_cons, List.map_cons, gll_cons, h1, h2]
theorem sq_encl6T (q q1 : Ql) (x : l6T) : setQL q (encl6T q1 x) = encl6T q x := sq_encl6T' x q q1
theorem sqm_encl6T (q q1 : Ql) (xs : List l6T) : setQLL q (xs.map (encl6T q1)) = xs.map (encl6T q) := by rw [setQLL_map]; exact List.map_congr_left (fun x _ => sq_encl6T q q1 x)
theorem ow_encl6T : ∀ x : l6T, ownOnlyL (encl6T .own x) = true := by
  intro x
  refine l6T.rec (motive_1 := fun x => ownOnlyL (encl6T .own x) = true) (motive_2 := fun x => ownOnlyLL (x.map (encl6T .own)) = true) ?_ ?_ ?_ x
  · intro kind_ n_ kids_ h_kids_; rw [encel6T]; simp [ownOnlyL, ownOnly, h_kids_]
  · rfl
  · intro x r h1 h2; rw [List.map_cons]; simp [ownOnlyLL, h1, h2]
theorem owm_encl6T (xs : List l6T) : ownOnlyLL (xs.map (encl6T .own)) = true := ownLL_map _ ow_encl6T xs
theorem fi_encl6T : ∀ x : l6T, fine.fineL (encl6T .own x) = true := by
  intro x
  refine l6T.rec (motive_1 := fun x => fine.fineL (encl6T .own x) = true) (motive_2 := fun x => fine.fineLL (x.map (encl6T .own)) = true) ?_ ?_ ?_ x
  · intro kind_ n_ kids_ h_kids_; rw [encel6T]; simp [fine.fineL, fine, h_kids_]
  · rfl
  · intro x r h1 h2; rw [List.map_cons]; simp [fine.fineLL, h1, h2]
theorem fim_encl6T (xs : List l6T) : fine.fineLL (xs.map (encl6T .own)) = true := fineLL_map _ fi_encl6T xs
theorem nu_encl6T : ∀ x : l6T, nude.nudeL (encl6T .own x) = true := by
  intro x
  refine l6T.rec (motive_1 := fun x => nude.nudeL (encl6T .own x) = true) (motive_2 := fun x => nude.nudeLL (x.map (encl6T .own)) = true) ?_ ?_ ?_ x
  · intro kind_ n_ kids_ h_kids_; rw [encel6T]; simp [nude.nudeL, nude, h_kids_]
  · rfl
  · intro x r h1 h2; rw [List.map_cons]; simp [nude.nudeLL, h1, h2]
theorem num_encl6T (xs : List l6T) : nude.nudeLL (xs.map (encl6T .own)) = true := nudeLL_map _ nu_encl6T xs
attribute [simp] sqm_encl6T ow_encl6T owm_encl6T fi_encl6T fim_encl6T nu_encl6T num_encl6T
theorem fii_encl6T (xs : List l6T) : fine.fineLL (xs.map (encl6T .imm)) = true := fineLL_map _ (fun x => by rw [encxl6T]; simp [fine.fineL, fine]) xs
attribute [go_sem] sqm_encl6T owm_encl6T fim_encl6T num_encl6T fii_encl6T
noncomputable def encLl6T (q : Ql) (x : (List l6T)) : List AV := [.ts q 3 (x.map (encl6T q))]
attribute [go_sem] encLl6T
theorem sq_encLl6T (q q1 : Ql) (x : (List l6T)) : setQL q (encLl6T q1 x) = encLl6T q x := by simp [encLl6T, sq_encl6T]
theorem sqm_encLl6T (q q1 : Ql) (xs : List (List l6T)) : setQLL q (xs.map (encLl6T q1)) = xs.map (encLl6T q) := by rw [setQLL_map]; exact List.map_congr_left (fun x _ => sq_encLl6T q q1 x)
theorem ow_encLl6T (x : (List l6T)) : ownOnlyL (encLl6T .own x) = true := by simp [encLl6T, ownOnlyL, ownOnly, ownLL_map]
theorem owm_encLl6T (xs : List (List l6T)) : ownOnlyLL (xs.map (encLl6T .own)) = true := ownLL_map _ ow_encLl6T xs
theorem fi_encLl6T (x : (List l6T)) : fine.fineL (encLl6T .own x) = true := by simp [encLl6T, fine.fineL, fine, fineLL_map]
theorem fim_encLl6T (xs : List (List l6T)) : fine.fineLL (xs.map (encLl6T .own)) = true := fineLL_map _ fi_encLl6T xs
theorem nu_encLl6T (x : (List l6T)) : nude.nudeL (encLl6T .own x) = true := by simp [encLl6T, nude.nudeL, nude, nudeLL_map]
theorem num_encLl6T (xs : List (List l6T)) : nude.nudeLL (xs.map (encLl6T .own)) = true := nudeLL_map _ nu_encLl6T xs
theorem fii_encLl6T (xs : List (List l6T)) : fine.fineLL (xs.map (encLl6T .imm)) = true := fineLL_map _ (fun x => by simp [encLl6T, fine.fineL, fine]) xs
attribute [go_sem] fii_encLl6T
attribute [simp] sqm_encLl6T ow_encLl6T owm_encLl6T fi_encLl6T fim_encLl6T nu_encLl6T num_encLl6T
attribute [go_sem] sqm_encLl6T owm_encLl6T fim_encLl6T num_encLl6T
noncomputable def encpattern (q : Ql) (x : pattern) : List AV := pattern.rec (motive_1 := fun _ => List AV) (motive_2 := fun _ => List (List AV)) (fun cell parts h_parts => [AV.int .i64 cell.kind, AV.int .i64 cell.n, AV.ts q 1 h_parts]) [] (fun _ _ h1 h2 => [AV.tp q 3 [h1] 0 0] :: h2) x
noncomputable def encPpattern (q : Ql) (x : pattern) : List AV := [.tp q 3 [encpattern q x] 0 0]
theorem encmpattern (q : Ql) (xs : List pattern) : pattern.rec_1 (motive_1 := fun _ => List AV) (motive_2 := fun _ => List (List AV)) (fun cell parts h_parts => [AV.int .i64 cell.kind, AV.int .i64 cell.n, AV.ts q 1 h_parts]) [] (fun _ _ h1 h2 => [AV.tp q 3 [h1] 0 0] :: h2) xs = xs.map (encPpattern q) := by
  induction xs with
  | nil => rfl
  | cons x r ih => rw [List.map_cons, ← ih]; rfl
theorem encxpattern (q : Ql) (x : pattern) : encpattern q x = [AV.int .i64 x.cell.kind, AV.int .i64 x.cell.n, AV.ts q 1 (x.parts.map (encPpattern q))] := by
  cases x with
  | mk cell parts => show [AV.int .i64 cell.kind, AV.int .i64 cell.n, AV.ts q 1 (pattern.rec_1 (motive_1 := fun _ => List AV) (motive_2 := fun _ => List (List AV)) (fun cell parts h_parts => [AV.int .i64 cell.kind, AV.int .i64 cell.n, AV.ts q 1 h_parts]) [] (fun _ _ h1 h2 => [AV.tp q 3 [h1] 0 0] :: h2) parts)] = _; rw [encmpattern]; rfl
theorem pattern.cell_mk (cell : ReCell) (parts : (List pattern)) : (pattern.mk cell parts).cell = cell := rfl
theorem pattern.parts_mk (cell : ReCell) (parts : (List pattern)) : (pattern.mk cell parts).parts = parts := rfl
attribute [go_sem] encxpattern pattern.cell_mk pattern.parts_mk
theorem sq_encpattern' : ∀ x : pattern, ∀ q q1 : Ql, setQL q (encpattern q1 x) = encpattern q x := by
  intro x
  refine pattern.rec (motive_1 := fun x => ∀ q q1 : Ql, setQL q (encpattern q1 x) = encpattern q x) (motive_2 := fun xs => ∀ q q1 : Ql, setQLL q (xs.map (encPpattern q1)) = xs.map (encPpattern q)) ?_ ?_ ?_ x
  · intro cell parts h_parts q q1; rw [encxpattern, encxpattern]; simp [h_parts, pattern.cell_mk, pattern.parts_mk]
  · intro q q1; rfl
  · intro x r h1 h2 q q1; rw [List.map_cons, List.map_cons, gll_cons, h2]; congr 1; simp only [encPpattern]; rw [setQL_cons, setQ_tp', gll_cons, h1]; rfl
theorem sq_encpattern (q q1 : Ql) (x : pattern) : setQL q (encpattern q1 x) = encpattern q x := sq_encpattern' x q q1
theorem sq1_encpattern (q q1 : Ql) (x : pattern) : setQLL q [encpattern q1 x] = [encpattern q x] := by rw [gll_cons, sq_encpattern]; rfl
attribute [go_sem] sq_encpattern sq1_encpattern
attribute [go_sem] encPpattern
theorem sq_encPpattern (q q1 : Ql) (x : pattern) : setQL q (encPpattern q1 x) = encPpattern q x := by simp only [encPpattern]; rw [setQL_cons, setQ_tp', gll_cons, sq_encpattern]; rfl
theorem sqm_encPpattern (q q1 : Ql) (xs : List pattern) : setQLL q (xs.map (encPpattern q1)) = xs.map (encPpattern q) := by rw [setQLL_map]; exact List.map_congr_left (fun x _ => sq_encPpattern q q1 x)
theorem fii_encPpattern (xs : List pattern) : fine.fineLL (xs.map (encPpattern .imm)) = true := fineLL_map _ (fun x => by simp [encPpattern, fine.fineL, fine]) xs
attribute [simp] sqm_encPpattern
attribute [go_sem] sqm_encPpattern fii_encPpattern
noncomputable def encLPpattern (q : Ql) (x : (List pattern)) : List AV := [.ts q 1 (x.map (encPpattern q))]
attribute [go_sem] encLPpattern
theorem sq_encLPpattern (q q1 : Ql) (x : (List pattern)) : setQL q (encLPpattern q1 x) = encLPpattern q x := by simp [encLPpattern, sq_encPpattern]
theorem sqm_encLPpattern (q q1 : Ql) (xs : List (List pattern)) : setQLL q (xs.map (encLPpattern q1)) = xs.map (encLPpattern q) := by rw [setQLL_map]; exact List.map_congr_left (fun x _ => sq_encLPpattern q q1 x)
attribute [simp] sqm_encLPpattern
attribute [go_sem] sqm_encLPpattern
-- f6 laws.szReCellS
theorem call6 (args : List AV) (S : St) : evCall T (evFL T) 6 args S = lendC (evFL T 6) S (lendAll S [[2], [0]] args) := evCall0 fn6 rfl rfl rfl args S
theorem callz6 (args : List AV) (S : St) : evCallFz T (evFL T) 6 args S = lendZ (evFL T 6) S [[0]] (lendAll S [[2], [0]] args) := evCallFz0 fn6 rfl rfl rfl args S
attribute [go_sem] call6 callz6
theorem e6 (a0 : (List ReCell)) (a1 : Int) (r : Int) (h : m6 a0 a1 = some r) : evFL T 6 [.ts .imm 2 (a0.map encReCell), .int .i64 a1] [] = some (.int .i64 r, []) := by
  unfold m6 at h
  rw [evFL_at fn6 (Nat.le_of_ble_eq_true rfl) rfl (.inr rfl) ⟨rfl, rfl⟩]
  try simp -implicitDefEqProofs only [go_sem, Nat.reduceLT, Nat.reduceAdd, Nat.reduceSub, Nat.reduceMul, Nat.reduceEqDiff, Nat.reduceBEq, Nat.reduceLeDiff, Int.reduceToNat, Int.reduceLT, Int.reduceLE, Int.reduceEq, reduceCtorEq, ↓reduceIte, i6, c6]
  cases b1 : (ltI (wsub .i64 a1 (↑a0.length : Int)) 0 : Bool)
  · replace h := br_f b1 h
    cases h
    simp -implicitDefEqProofs only [go_sem, Nat.reduceLT, Nat.reduceAdd, Nat.reduceSub, Nat.reduceMul, Nat.reduceEqDiff, Nat.reduceBEq, Nat.reduceLeDiff, Int.reduceToNat, Int.reduceLT, Int.reduceLE, Int.reduceEq, reduceCtorEq, ↓reduceIte, i6, c6, b1]
  · replace h := br_t b1 h
    cases h
    simp -implicitDefEqProofs only [go_sem, Nat.reduceLT, Nat.reduceAdd, Nat.reduceSub, Nat.reduceMul, Nat.reduceEqDiff, Nat.reduceBEq, Nat.reduceLeDiff, Int.reduceToNat, Int.reduceLT, Int.reduceLE, Int.reduceEq, reduceCtorEq, ↓reduceIte, i6, c6, b1]
-- f32 laws.toReCell
theorem call32 (args : List AV) (S : St) : evCall T (evFL T) 32 args S = lendC (evFL T 32) S (lendAll S [[0, 0]] args) := evCall0 fn32 rfl rfl rfl args S
theorem callz32 (args : List AV) (S : St) : evCallFz T (evFL T) 32 args S = lendZ (evFL T 32) S [[0, 0]] (lendAll S [[0, 0]] args) := evCallFz0 fn32 rfl rfl rfl args S
attribute [go_sem] call32 callz32
theorem e32 (a0 : ReCell) (r : ReCell) (h : m32 a0 = some r) : evFL T 32 [.agg [.int .i64 a0.kind, .int .i64 a0.n]] [] = some (.agg [.int .i64 r.kind, .int .i64 r.n], []) := by
  unfold m32 at h
  rw [evFL_at fn32 (Nat.le_of_ble_eq_true rfl) rfl (.inr rfl) ⟨rfl, rfl⟩]
  cases h
  simp -implicitDefEqProofs only [go_sem, Nat.reduceLT, Nat.reduceAdd, Nat.reduceSub, Nat.reduceMul, Nat.reduceEqDiff, Nat.reduceBEq, Nat.reduceLeDiff, Int.reduceToNat, Int.reduceLT, Int.reduceLE, Int.reduceEq, reduceCtorEq, ↓reduceIte, i32, c32]
-- f8 laws.toReCellS
theorem call8 (args : List AV) (S : St) : evCall T (evFL T) 8 args S = lendC (evFL T 8) S (lendAll S [[2]] args) := evCall0 fn8 rfl rfl rfl args S
theorem callz8 (args : List AV) (S : St) : evCallFz T (evFL T) 8 args S = lendZ (evFL T 8) S [[2]] (lendAll S [[2]] args) := evCallFz0 fn8 rfl rfl rfl args S
attribute [go_sem] call8 callz8
noncomputable def X8_1 (a0 : (List ReCell)) (o : (List ReCell)) : Ex × Fr × St :=
  (.exit 0, frOf 23 (upd anyF 3 (.sl 0 0 o.length)), [some ⟨.arr, 2, o.map encReCell⟩])
noncomputable def E8_1 (a0 : (List ReCell)) (s : (Int × List ReCell)) : Fr × St := (frOf 23 (upd (upd (upd anyF 0 (.ts .imm 2 (a0.map encReCell))) 3 (.sl 0 0 s.2.length)) 4 (.int .i64 s.1)), [some ⟨.arr, 2, s.2.map encReCell⟩])
theorem b8_1 (a0 : (List ReCell)) (s : (Int × List ReCell)) (o : Ctl (Int × List ReCell) (List ReCell)) (h : m8_1b a0 s = some o) : evCL T 0 k8_1b (E8_1 a0 s).1 (E8_1 a0 s).2 = some (ctlX (E8_1 a0) (X8_1 a0) o) := by
  unfold m8_1b at h
  obtain ⟨s17, s18⟩ := s
  replace h := sel2_some h
  try simp -implicitDefEqProofs only [go_sem, Nat.reduceLT, Nat.reduceAdd, Nat.reduceSub, Nat.reduceMul, Nat.reduceEqDiff, Nat.reduceBEq, Nat.reduceLeDiff, Int.reduceToNat, Int.reduceLT, Int.reduceLE, Int.reduceEq, reduceCtorEq, ↓reduceIte, E8_1, X8_1, k8_1b]
  cases b19 : (ltI s17 (↑a0.length : Int) : Bool)
  · replace h := br_f b19 h
    cases h
    simp -implicitDefEqProofs only [go_sem, Nat.reduceLT, Nat.reduceAdd, Nat.reduceSub, Nat.reduceMul, Nat.reduceEqDiff, Nat.reduceBEq, Nat.reduceLeDiff, Int.reduceToNat, Int.reduceLT, Int.reduceLE, Int.reduceEq, reduceCtorEq, ↓reduceIte, E8_1, X8_1, k8_1b, b19]
  · replace h := br_t b19 h
    obtain ⟨x20, q21, h⟩ := bnd_some h
    obtain ⟨g22, g23, g24⟩ := idx_row encReCell q21
    try simp -implicitDefEqProofs only [go_sem, Nat.reduceLT, Nat.reduceAdd, Nat.reduceSub, Nat.reduceMul, Nat.reduceEqDiff, Nat.reduceBEq, Nat.reduceLeDiff, Int.reduceToNat, Int.reduceLT, Int.reduceLE, Int.reduceEq, reduceCtorEq, ↓reduceIte] at g23
    try simp -implicitDefEqProofs only [go_sem, Nat.reduceLT, Nat.reduceAdd, Nat.reduceSub, Nat.reduceMul, Nat.reduceEqDiff, Nat.reduceBEq, Nat.reduceLeDiff, Int.reduceToNat, Int.reduceLT, Int.reduceLE, Int.reduceEq, reduceCtorEq, ↓reduceIte] at g24
    obtain ⟨r27, q25, h⟩ := bnd_some h
    have w26 := e32 x20 r27 q25
    try simp -implicitDefEqProofs only [go_sem, Nat.reduceLT, Nat.reduceAdd, Nat.reduceSub, Nat.reduceMul, Nat.reduceEqDiff, Nat.reduceBEq, Nat.reduceLeDiff, Int.reduceToNat, Int.reduceLT, Int.reduceLE, Int.reduceEq, reduceCtorEq, ↓reduceIte] at w26
    obtain ⟨x28, q29, h⟩ := bnd_some h
    obtain ⟨g30, g31, g32⟩ := idx_row encReCell q29
    try simp -implicitDefEqProofs only [go_sem, Nat.reduceLT, Nat.reduceAdd, Nat.reduceSub, Nat.reduceMul, Nat.reduceEqDiff, Nat.reduceBEq, Nat.reduceLeDiff, Int.reduceToNat, Int.reduceLT, Int.reduceLE, Int.reduceEq, reduceCtorEq, ↓reduceIte] at g31
    try simp -implicitDefEqProofs only [go_sem, Nat.reduceLT, Nat.reduceAdd, Nat.reduceSub, Nat.reduceMul, Nat.reduceEqDiff, Nat.reduceBEq, Nat.reduceLeDiff, Int.reduceToNat, Int.reduceLT, Int.reduceLE, Int.reduceEq, reduceCtorEq, ↓reduceIte] at g32
    cases h
    simp -implicitDefEqProofs only [go_sem, Nat.reduceLT, Nat.reduceAdd, Nat.reduceSub, Nat.reduceMul, Nat.reduceEqDiff, Nat.reduceBEq, Nat.reduceLeDiff, Int.reduceToNat, Int.reduceLT, Int.reduceLE, Int.reduceEq, reduceCtorEq, ↓reduceIte, E8_1, X8_1, k8_1b, b19, g22, g23, g24, w26, g30, g31, g32]
theorem e8_1 (a0 : (List ReCell)) (s : (Int × List ReCell)) (o : (List ReCell)) (h : loopP (m8_1b a0) s = some o) : evCL T 0 (.loop k8_1b) (E8_1 a0 s).1 (E8_1 a0 s).2 = some (X8_1 a0 o) :=
  loop_walk (E := E8_1 a0) (X := X8_1 a0) (by intro b; (simp only [X8_1]; nofun)) (b8_1 a0) s o h
theorem e8 (a0 : (List ReCell)) (r : (List ReCell)) (h : m8 a0 = some r) : evFL T 8 [.ts .imm 2 (a0.map encReCell)] [] = some (.sl 0 0 r.length, [some ⟨.arr, 2, r.map encReCell⟩]) := by
  unfold m8 at h
  rw [evFL_at fn8 (Nat.le_of_ble_eq_true rfl) rfl (.inr rfl) ⟨rfl, rfl⟩]
  obtain ⟨g1, h⟩ := ck_some h
  try simp -implicitDefEqProofs only [go_sem, Nat.reduceLT, Nat.reduceAdd, Nat.reduceSub, Nat.reduceMul, Nat.reduceEqDiff, Nat.reduceBEq, Nat.reduceLeDiff, Int.reduceToNat, Int.reduceLT, Int.reduceLE, Int.reduceEq, reduceCtorEq, ↓reduceIte] at g1
  obtain ⟨v35, q33, h⟩ := bnd_some h
  have w34 := e8_1 a0 (0, List.replicate a0.length (⟨0, 0⟩ : ReCell)) v35 q33
  simp only [E8_1, X8_1] at w34
  try simp -implicitDefEqProofs only [go_sem, Nat.reduceLT, Nat.reduceAdd, Nat.reduceSub, Nat.reduceMul, Nat.reduceEqDiff, Nat.reduceBEq, Nat.reduceLeDiff, Int.reduceToNat, Int.reduceLT, Int.reduceLE, Int.reduceEq, reduceCtorEq, ↓reduceIte] at w34
  cases h
  simp -implicitDefEqProofs only [go_sem, Nat.reduceLT, Nat.reduceAdd, Nat.reduceSub, Nat.reduceMul, Nat.reduceEqDiff, Nat.reduceBEq, Nat.reduceLeDiff, Int.reduceToNat, Int.reduceLT, Int.reduceLE, Int.reduceEq, reduceCtorEq, ↓reduceIte, i8, c8, g1, w34]
-- f78 spec.l6Arity
theorem call78 (args : List AV) (S : St) : evCall T (evFL T) 78 args S = lendC (evFL T 78) S (lendAll S [[0]] args) := evCall0 fn78 rfl rfl rfl args S
theorem callz78 (args : List AV) (S : St) : evCallFz T (evFL T) 78 args S = lendZ (evFL T 78) S [[0]] (lendAll S [[0]] args) := evCallFz0 fn78 rfl rfl rfl args S
attribute [go_sem] call78 callz78
noncomputable def X78_3 (a0 : Int) (p5 : Bool) (o : Bool) : Ex × Fr × St :=
  (.normal, frOf 14 (upd (upd anyF 3 (.int .i64 a0)) 4 (.bool o)), [])
theorem e78_3 (a0 : Int) (p5 : Bool) (o : Bool) (h : m78_3 a0 p5 = some o) : evCL T 0 k78_3 (frOf 14 (upd (upd anyF 3 (.int .i64 a0)) 4 (.bool p5))) [] = some (X78_3 a0 p5 o) := by
  unfold m78_3 at h
  try simp -implicitDefEqProofs only [go_sem, Nat.reduceLT, Nat.reduceAdd, Nat.reduceSub, Nat.reduceMul, Nat.reduceEqDiff, Nat.reduceBEq, Nat.reduceLeDiff, Int.reduceToNat, Int.reduceLT, Int.reduceLE, Int.reduceEq, reduceCtorEq, ↓reduceIte, X78_3, k78_3]
  cases b6 : (p5 : Bool)
  · replace h := br_f b6 h
    cases h
    simp -implicitDefEqProofs only [go_sem, Nat.reduceLT, Nat.reduceAdd, Nat.reduceSub, Nat.reduceMul, Nat.reduceEqDiff, Nat.reduceBEq, Nat.reduceLeDiff, Int.reduceToNat, Int.reduceLT, Int.reduceLE, Int.reduceEq, reduceCtorEq, ↓reduceIte, X78_3, k78_3, b6]
  · replace h := br_t b6 h
    cases h
    simp -implicitDefEqProofs only [go_sem, Nat.reduceLT, Nat.reduceAdd, Nat.reduceSub, Nat.reduceMul, Nat.reduceEqDiff, Nat.reduceBEq, Nat.reduceLeDiff, Int.reduceToNat, Int.reduceLT, Int.reduceLE, Int.reduceEq, reduceCtorEq, ↓reduceIte, X78_3, k78_3, b6]
noncomputable def X78_2 (a0 : Int) (p3 : Bool) (o : Bool) : Ex × Fr × St :=
  (.normal, frOf 14 (upd (upd anyF 3 (.int .i64 a0)) 4 (.bool o)), [])
theorem e78_2 (a0 : Int) (p3 : Bool) (o : Bool) (h : m78_2 a0 p3 = some o) : evCL T 0 k78_2 (frOf 14 (upd (upd anyF 3 (.int .i64 a0)) 4 (.bool p3))) [] = some (X78_2 a0 p3 o) := by
  unfold m78_2 at h
  try simp -implicitDefEqProofs only [go_sem, Nat.reduceLT, Nat.reduceAdd, Nat.reduceSub, Nat.reduceMul, Nat.reduceEqDiff, Nat.reduceBEq, Nat.reduceLeDiff, Int.reduceToNat, Int.reduceLT, Int.reduceLE, Int.reduceEq, reduceCtorEq, ↓reduceIte, X78_2, k78_2]
  cases b4 : (p3 : Bool)
  · replace h := br_f b4 h
    obtain ⟨v9, q7, h⟩ := bnd_some h
    have w8 := e78_3 a0 (eqI a0 3) v9 q7
    simp only [X78_3] at w8
    try simp -implicitDefEqProofs only [go_sem, Nat.reduceLT, Nat.reduceAdd, Nat.reduceSub, Nat.reduceMul, Nat.reduceEqDiff, Nat.reduceBEq, Nat.reduceLeDiff, Int.reduceToNat, Int.reduceLT, Int.reduceLE, Int.reduceEq, reduceCtorEq, ↓reduceIte] at w8
    cases h
    simp -implicitDefEqProofs only [go_sem, Nat.reduceLT, Nat.reduceAdd, Nat.reduceSub, Nat.reduceMul, Nat.reduceEqDiff, Nat.reduceBEq, Nat.reduceLeDiff, Int.reduceToNat, Int.reduceLT, Int.reduceLE, Int.reduceEq, reduceCtorEq, ↓reduceIte, X78_2, k78_2, b4, w8]
  · replace h := br_t b4 h
    cases h
    simp -implicitDefEqProofs only [go_sem, Nat.reduceLT, Nat.reduceAdd, Nat.reduceSub, Nat.reduceMul, Nat.reduceEqDiff, Nat.reduceBEq, Nat.reduceLeDiff, Int.reduceToNat, Int.reduceLT, Int.reduceLE, Int.reduceEq, reduceCtorEq, ↓reduceIte, X78_2, k78_2, b4]
noncomputable def X78_1 (a0 : Int) (p1 : Bool) (o : Bool) : Ex × Fr × St :=
  (.normal, frOf 14 (upd (upd anyF 3 (.int .i64 a0)) 4 (.bool o)), [])
theorem e78_1 (a0 : Int) (p1 : Bool) (o : Bool) (h : m78_1 a0 p1 = some o) : evCL T 0 k78_1 (frOf 14 (upd (upd anyF 3 (.int .i64 a0)) 4 (.bool p1))) [] = some (X78_1 a0 p1 o) := by
  unfold m78_1 at h
  try simp -implicitDefEqProofs only [go_sem, Nat.reduceLT, Nat.reduceAdd, Nat.reduceSub, Nat.reduceMul, Nat.reduceEqDiff, Nat.reduceBEq, Nat.reduceLeDiff, Int.reduceToNat, Int.reduceLT, Int.reduceLE, Int.reduceEq, reduceCtorEq, ↓reduceIte, X78_1, k78_1]
  cases b2 : (p1 : Bool)
  · replace h := br_f b2 h
    obtain ⟨v12, q10, h⟩ := bnd_some h
    have w11 := e78_2 a0 (eqI a0 2) v12 q10
    simp only [X78_2] at w11
    try simp -implicitDefEqProofs only [go_sem, Nat.reduceLT, Nat.reduceAdd, Nat.reduceSub, Nat.reduceMul, Nat.reduceEqDiff, Nat.reduceBEq, Nat.reduceLeDiff, Int.reduceToNat, Int.reduceLT, Int.reduceLE, Int.reduceEq, reduceCtorEq, ↓reduceIte] at w11
    cases h
    simp -implicitDefEqProofs only [go_sem, Nat.reduceLT, Nat.reduceAdd, Nat.reduceSub, Nat.reduceMul, Nat.reduceEqDiff, Nat.reduceBEq, Nat.reduceLeDiff, Int.reduceToNat, Int.reduceLT, Int.reduceLE, Int.reduceEq, reduceCtorEq, ↓reduceIte, X78_1, k78_1, b2, w11]
  · replace h := br_t b2 h
    cases h
    simp -implicitDefEqProofs only [go_sem, Nat.reduceLT, Nat.reduceAdd, Nat.reduceSub, Nat.reduceMul, Nat.reduceEqDiff, Nat.reduceBEq, Nat.reduceLeDiff, Int.reduceToNat, Int.reduceLT, Int.reduceLE, Int.reduceEq, reduceCtorEq, ↓reduceIte, X78_1, k78_1, b2]
noncomputable def X78_4 (a0 : Int) (p17 : Bool) (o : Bool) : Ex × Fr × St :=
  (.normal, frOf 14 (upd (upd anyF 3 (.int .i64 a0)) 9 (.bool o)), [])
theorem e78_4 (a0 : Int) (p17 : Bool) (o : Bool) (h : m78_4 a0 p17 = some o) : evCL T 0 k78_4 (frOf 14 (upd (upd anyF 3 (.int .i64 a0)) 9 (.bool p17))) [] = some (X78_4 a0 p17 o) := by
  unfold m78_4 at h
  try simp -implicitDefEqProofs only [go_sem, Nat.reduceLT, Nat.reduceAdd, Nat.reduceSub, Nat.reduceMul, Nat.reduceEqDiff, Nat.reduceBEq, Nat.reduceLeDiff, Int.reduceToNat, Int.reduceLT, Int.reduceLE, Int.reduceEq, reduceCtorEq, ↓reduceIte, X78_4, k78_4]
  cases b18 : (p17 : Bool)
  · replace h := br_f b18 h
    cases h
    simp -implicitDefEqProofs only [go_sem, Nat.reduceLT, Nat.reduceAdd, Nat.reduceSub, Nat.reduceMul, Nat.reduceEqDiff, Nat.reduceBEq, Nat.reduceLeDiff, Int.reduceToNat, Int.reduceLT, Int.reduceLE, Int.reduceEq, reduceCtorEq, ↓reduceIte, X78_4, k78_4, b18]
  · replace h := br_t b18 h
    cases h
    simp -implicitDefEqProofs only [go_sem, Nat.reduceLT, Nat.reduceAdd, Nat.reduceSub, Nat.reduceMul, Nat.reduceEqDiff, Nat.reduceBEq, Nat.reduceLeDiff, Int.reduceToNat, Int.reduceLT, Int.reduceLE, Int.reduceEq, reduceCtorEq, ↓reduceIte, X78_4, k78_4, b18]
theorem e78 (a0 : Int) (r : Int) (h : m78 a0 = some r) : evFL T 78 [.int .i64 a0] [] = some (.int .i64 r, []) := by
  unfold m78 at h
  rw [evFL_at fn78 (Nat.le_of_ble_eq_true rfl) rfl (.inr rfl) ⟨rfl, rfl⟩]
  obtain ⟨v15, q13, h⟩ := bnd_some h
  have w14 := e78_1 a0 (eqI a0 1) v15 q13
  simp only [X78_1] at w14
  try simp -implicitDefEqProofs only [go_sem, Nat.reduceLT, Nat.reduceAdd, Nat.reduceSub, Nat.reduceMul, Nat.reduceEqDiff, Nat.reduceBEq, Nat.reduceLeDiff, Int.reduceToNat, Int.reduceLT, Int.reduceLE, Int.reduceEq, reduceCtorEq, ↓reduceIte] at w14
  try simp -implicitDefEqProofs only [go_sem, Nat.reduceLT, Nat.reduceAdd, Nat.reduceSub, Nat.reduceMul, Nat.reduceEqDiff, Nat.reduceBEq, Nat.reduceLeDiff, Int.reduceToNat, Int.reduceLT, Int.reduceLE, Int.reduceEq, reduceCtorEq, ↓reduceIte, i78, c78, w14]
  cases b16 : (v15 : Bool)
  · replace h := br_f b16 h
    obtain ⟨v21, q19, h⟩ := bnd_some h
    have w20 := e78_4 a0 (eqI a0 5) v21 q19
    simp only [X78_4] at w20
    try simp -implicitDefEqProofs only [go_sem, Nat.reduceLT, Nat.reduceAdd, Nat.reduceSub, Nat.reduceMul, Nat.reduceEqDiff, Nat.reduceBEq, Nat.reduceLeDiff, Int.reduceToNat, Int.reduceLT, Int.reduceLE, Int.reduceEq, reduceCtorEq, ↓reduceIte] at w20
    try simp -implicitDefEqProofs only [go_sem, Nat.reduceLT, Nat.reduceAdd, Nat.reduceSub, Nat.reduceMul, Nat.reduceEqDiff, Nat.reduceBEq, Nat.reduceLeDiff, Int.reduceToNat, Int.reduceLT, Int.reduceLE, Int.reduceEq, reduceCtorEq, ↓reduceIte, i78, c78, w14, b16, w20]
    cases b22 : (v21 : Bool)
    · replace h := br_f b22 h
      try simp -implicitDefEqProofs only [go_sem, Nat.reduceLT, Nat.reduceAdd, Nat.reduceSub, Nat.reduceMul, Nat.reduceEqDiff, Nat.reduceBEq, Nat.reduceLeDiff, Int.reduceToNat, Int.reduceLT, Int.reduceLE, Int.reduceEq, reduceCtorEq, ↓reduceIte, i78, c78, w14, b16, w20, b22]
      cases b23 : (eqI a0 7 : Bool)
      · replace h := br_f b23 h
        cases h
        simp -implicitDefEqProofs only [go_sem, Nat.reduceLT, Nat.reduceAdd, Nat.reduceSub, Nat.reduceMul, Nat.reduceEqDiff, Nat.reduceBEq, Nat.reduceLeDiff, Int.reduceToNat, Int.reduceLT, Int.reduceLE, Int.reduceEq, reduceCtorEq, ↓reduceIte, i78, c78, w14, b16, w20, b22, b23]
      · replace h := br_t b23 h
        cases h
        simp -implicitDefEqProofs only [go_sem, Nat.reduceLT, Nat.reduceAdd, Nat.reduceSub, Nat.reduceMul, Nat.reduceEqDiff, Nat.reduceBEq, Nat.reduceLeDiff, Int.reduceToNat, Int.reduceLT, Int.reduceLE, Int.reduceEq, reduceCtorEq, ↓reduceIte, i78, c78, w14, b16, w20, b22, b23]
    · replace h := br_t b22 h
      cases h
      simp -implicitDefEqProofs only [go_sem, Nat.reduceLT, Nat.reduceAdd, Nat.reduceSub, Nat.reduceMul, Nat.reduceEqDiff, Nat.reduceBEq, Nat.reduceLeDiff, Int.reduceToNat, Int.reduceLT, Int.reduceLE, Int.reduceEq, reduceCtorEq, ↓reduceIte, i78, c78, w14, b16, w20, b22]
  · replace h := br_t b16 h
    cases h
    simp -implicitDefEqProofs only [go_sem, Nat.reduceLT, Nat.reduceAdd, Nat.reduceSub, Nat.reduceMul, Nat.reduceEqDiff, Nat.reduceBEq, Nat.reduceLeDiff, Int.reduceToNat, Int.reduceLT, Int.reduceLE, Int.reduceEq, reduceCtorEq, ↓reduceIte, i78, c78, w14, b16]
-- f36 spec.l1In
theorem call36 (args : List AV) (S : St) : evCall T (evFL T) 36 args S = lendC (evFL T 36) S (lendAll S [[0], [0], [0]] args) := evCall0 fn36 rfl rfl rfl args S
theorem callz36 (args : List AV) (S : St) : evCallFz T (evFL T) 36 args S = lendZ (evFL T 36) S [[0]] (lendAll S [[0], [0], [0]] args) := evCallFz0 fn36 rfl rfl rfl args S
attribute [go_sem] call36 callz36
noncomputable def X36_1 (a0 : Int) (a1 : Int) (a2 : Int) (o : Bool) : Ex × Fr × St :=
  (.normal, frOf 15 (upd anyF 6 (.bool o)), [])
theorem e36_1 (a0 : Int) (a1 : Int) (a2 : Int) (o : Bool) (h : m36_1 a0 a1 a2 = some o) : evCL T 0 k36_1 (frOf 15 (upd (upd (upd anyF 0 (.int .i64 a0)) 1 (.int .i64 a1)) 2 (.int .i64 a2))) [] = some (X36_1 a0 a1 a2 o) := by
  unfold m36_1 at h
  try simp -implicitDefEqProofs only [go_sem, Nat.reduceLT, Nat.reduceAdd, Nat.reduceSub, Nat.reduceMul, Nat.reduceEqDiff, Nat.reduceBEq, Nat.reduceLeDiff, Int.reduceToNat, Int.reduceLT, Int.reduceLE, Int.reduceEq, reduceCtorEq, ↓reduceIte, X36_1, k36_1]
  cases b1 : (leI a1 a0 : Bool)
  · replace h := br_f b1 h
    cases h
    simp -implicitDefEqProofs only [go_sem, Nat.reduceLT, Nat.reduceAdd, Nat.reduceSub, Nat.reduceMul, Nat.reduceEqDiff, Nat.reduceBEq, Nat.reduceLeDiff, Int.reduceToNat, Int.reduceLT, Int.reduceLE, Int.reduceEq, reduceCtorEq, ↓reduceIte, X36_1, k36_1, b1]
  · replace h := br_t b1 h
    cases h
    simp -implicitDefEqProofs only [go_sem, Nat.reduceLT, Nat.reduceAdd, Nat.reduceSub, Nat.reduceMul, Nat.reduceEqDiff, Nat.reduceBEq, Nat.reduceLeDiff, Int.reduceToNat, Int.reduceLT, Int.reduceLE, Int.reduceEq, reduceCtorEq, ↓reduceIte, X36_1, k36_1, b1]
theorem e36 (a0 : Int) (a1 : Int) (a2 : Int) (r : Bool) (h : m36 a0 a1 a2 = some r) : evFL T 36 [.int .i64 a0, .int .i64 a1, .int .i64 a2] [] = some (.bool r, []) := by
  unfold m36 at h
  rw [evFL_at fn36 (Nat.le_of_ble_eq_true rfl) rfl (.inr rfl) ⟨rfl, rfl⟩]
  obtain ⟨v4, q2, h⟩ := bnd_some h
  have w3 := e36_1 a0 a1 a2 v4 q2
  simp only [X36_1] at w3
  try simp -implicitDefEqProofs only [go_sem, Nat.reduceLT, Nat.reduceAdd, Nat.reduceSub, Nat.reduceMul, Nat.reduceEqDiff, Nat.reduceBEq, Nat.reduceLeDiff, Int.reduceToNat, Int.reduceLT, Int.reduceLE, Int.reduceEq, reduceCtorEq, ↓reduceIte] at w3
  cases h
  simp -implicitDefEqProofs only [go_sem, Nat.reduceLT, Nat.reduceAdd, Nat.reduceSub, Nat.reduceMul, Nat.reduceEqDiff, Nat.reduceBEq, Nat.reduceLeDiff, Int.reduceToNat, Int.reduceLT, Int.reduceLE, Int.reduceEq, reduceCtorEq, ↓reduceIte, i36, c36, w3]
-- f62 spec.l6Read
theorem call62 (args : List AV) (S : St) : evCall T (evFL T) 62 args S = lendC (evFL T 62) S (lendAll S [[2], [0]] args) := evCall0 fn62 rfl rfl rfl args S
theorem callz62 (args : List AV) (S : St) : evCallFz T (evFL T) 62 args S = lendZ (evFL T 62) S [[0, 0, 3], [0]] (lendAll S [[2], [0]] args) := evCallFz0 fn62 rfl rfl rfl args S
attribute [go_sem] call62 callz62
noncomputable def X62_1 (a0 : (List ReCell)) (a1 : Int) (r9 : Int) (x2 : ReCell) (o : Bool) : Ex × Fr × St :=
  (.normal, frOf 76 (upd (upd (upd (upd (upd (upd anyF 0 (.ts .imm 2 (a0.map encReCell))) 1 (.int .i64 a1)) 4 (.ptr 0 0 0)) 6 (.ptr 2 0 0)) 7 (.int .i64 r9)) 45 (.bool o)), [some ⟨.box, 3, [[.int .i64 0, .int .i64 0, .sl 1 0 0]]⟩, some ⟨.arr, 3, []⟩, some ⟨.box, 2, [[.int .i64 x2.kind, .int .i64 x2.n]]⟩])
theorem e62_1 (rc : (List ReCell) → Int → Option (l6T × Int)) (hrc : ∀ (a0 : (List ReCell)) (a1 : Int) (r : (l6T × Int)), rc a0 a1 = some r → evFL T 62 [.ts .imm 2 (a0.map encReCell), .int .i64 a1] [] = some (.tup [.agg [.int .i64 r.1.kind_, .int .i64 r.1.n_, .sl 0 0 r.1.kids_.length], .int .i64 r.2], [some ⟨.arr, 3, r.1.kids_.map (encl6T .own)⟩])) (a0 : (List ReCell)) (a1 : Int) (r9 : Int) (x2 : ReCell) (o : Bool) (h : m62_1 rc r9 x2 = some o) : evCL T 0 k62_1 (frOf 76 (upd (upd (upd (upd (upd anyF 0 (.ts .imm 2 (a0.map encReCell))) 1 (.int .i64 a1)) 4 (.ptr 0 0 0)) 6 (.ptr 2 0 0)) 7 (.int .i64 r9))) [some ⟨.box, 3, [[.int .i64 0, .int .i64 0, .sl 1 0 0]]⟩, some ⟨.arr, 3, []⟩, some ⟨.box, 2, [[.int .i64 x2.kind, .int .i64 x2.n]]⟩] = some (X62_1 a0 a1 r9 x2 o) := by
  unfold m62_1 at h
  try simp -implicitDefEqProofs only [go_sem, Nat.reduceLT, Nat.reduceAdd, Nat.reduceSub, Nat.reduceMul, Nat.reduceEqDiff, Nat.reduceBEq, Nat.reduceLeDiff, Int.reduceToNat, Int.reduceLT, Int.reduceLE, Int.reduceEq, reduceCtorEq, ↓reduceIte, X62_1, k62_1]
  cases b10 : (ltI r9 0 : Bool)
  · replace h := br_f b10 h
    try simp -implicitDefEqProofs only [go_sem, Nat.reduceLT, Nat.reduceAdd, Nat.reduceSub, Nat.reduceMul, Nat.reduceEqDiff, Nat.reduceBEq, Nat.reduceLeDiff, Int.reduceToNat, Int.reduceLT, Int.reduceLE, Int.reduceEq, reduceCtorEq, ↓reduceIte, X62_1, k62_1, b10]
    cases b11 : (eqI x2.kind 3 : Bool)
    · replace h := br_f b11 h
      cases h
      simp -implicitDefEqProofs only [go_sem, Nat.reduceLT, Nat.reduceAdd, Nat.reduceSub, Nat.reduceMul, Nat.reduceEqDiff, Nat.reduceBEq, Nat.reduceLeDiff, Int.reduceToNat, Int.reduceLT, Int.reduceLE, Int.reduceEq, reduceCtorEq, ↓reduceIte, X62_1, k62_1, b10, b11]
    · replace h := br_t b11 h
      obtain ⟨r14, q12, h⟩ := bnd_some h
      have w13 := e36 x2.n 1 65535 r14 q12
      try simp -implicitDefEqProofs only [go_sem, Nat.reduceLT, Nat.reduceAdd, Nat.reduceSub, Nat.reduceMul, Nat.reduceEqDiff, Nat.reduceBEq, Nat.reduceLeDiff, Int.reduceToNat, Int.reduceLT, Int.reduceLE, Int.reduceEq, reduceCtorEq, ↓reduceIte] at w13
      try simp -implicitDefEqProofs only [go_sem, Nat.reduceLT, Nat.reduceAdd, Nat.reduceSub, Nat.reduceMul, Nat.reduceEqDiff, Nat.reduceBEq, Nat.reduceLeDiff, Int.reduceToNat, Int.reduceLT, Int.reduceLE, Int.reduceEq, reduceCtorEq, ↓reduceIte, X62_1, k62_1, b10, b11, w13]
      cases b15 : (r14 : Bool)
      · replace h := br_f b15 h
        cases h
        simp -implicitDefEqProofs only [go_sem, Nat.reduceLT, Nat.reduceAdd, Nat.reduceSub, Nat.reduceMul, Nat.reduceEqDiff, Nat.reduceBEq, Nat.reduceLeDiff, Int.reduceToNat, Int.reduceLT, Int.reduceLE, Int.reduceEq, reduceCtorEq, ↓reduceIte, X62_1, k62_1, b10, b11, w13, b15]
      · replace h := br_t b15 h
        cases h
        simp -implicitDefEqProofs only [go_sem, Nat.reduceLT, Nat.reduceAdd, Nat.reduceSub, Nat.reduceMul, Nat.reduceEqDiff, Nat.reduceBEq, Nat.reduceLeDiff, Int.reduceToNat, Int.reduceLT, Int.reduceLE, Int.reduceEq, reduceCtorEq, ↓reduceIte, X62_1, k62_1, b10, b11, w13, b15]
  · replace h := br_t b10 h
    cases h
    simp -implicitDefEqProofs only [go_sem, Nat.reduceLT, Nat.reduceAdd, Nat.reduceSub, Nat.reduceMul, Nat.reduceEqDiff, Nat.reduceBEq, Nat.reduceLeDiff, Int.reduceToNat, Int.reduceLT, Int.reduceLE, Int.reduceEq, reduceCtorEq, ↓reduceIte, X62_1, k62_1, b10]
noncomputable def X62_2 (a0 : (List ReCell)) (x2 : ReCell) (o : ((Int × List l6T) ⊕ Unit)) : Ex × Fr × St :=
  match o with
  | .inl o => (.exit 0, frOf 76 (upd (upd (upd anyF 1 (.int .i64 o.1)) 4 (.ptr 0 0 0)) 8 (.ptr 2 0 0)), [some ⟨.box, 3, [[.int .i64 0, .int .i64 0, .sl 1 0 0]]⟩, some ⟨.arr, 3, []⟩, some ⟨.box, 3, [[.int .i64 x2.kind, .int .i64 x2.n, .sl 3 0 o.2.length]]⟩, some ⟨.arr, 3, o.2.map (encl6T .own)⟩])
  | .inr o => (.ret, frOf 76 (upd (upd anyF 4 (.ptr 0 0 0)) 5 (.int .i64 0)), [some ⟨.box, 3, [[.int .i64 0, .int .i64 0, .sl 1 0 0]]⟩, some ⟨.arr, 3, []⟩])
noncomputable def E62_2 (a0 : (List ReCell)) (x2 : ReCell) (s : (Int × Int × List l6T)) : Fr × St := (frOf 76 (upd (upd (upd (upd (upd anyF 0 (.ts .imm 2 (a0.map encReCell))) 1 (.int .i64 s.1)) 4 (.ptr 0 0 0)) 7 (.int .i64 s.2.1)) 8 (.ptr 2 0 0)), [some ⟨.box, 3, [[.int .i64 0, .int .i64 0, .sl 1 0 0]]⟩, some ⟨.arr, 3, []⟩, some ⟨.box, 3, [[.int .i64 x2.kind, .int .i64 x2.n, .sl 3 0 s.2.2.length]]⟩, some ⟨.arr, 3, s.2.2.map (encl6T .own)⟩])
theorem b62_2 (rc : (List ReCell) → Int → Option (l6T × Int)) (hrc : ∀ (a0 : (List ReCell)) (a1 : Int) (r : (l6T × Int)), rc a0 a1 = some r → evFL T 62 [.ts .imm 2 (a0.map encReCell), .int .i64 a1] [] = some (.tup [.agg [.int .i64 r.1.kind_, .int .i64 r.1.n_, .sl 0 0 r.1.kids_.length], .int .i64 r.2], [some ⟨.arr, 3, r.1.kids_.map (encl6T .own)⟩])) (a0 : (List ReCell)) (x2 : ReCell) (s : (Int × Int × List l6T)) (o : Ctl (Int × Int × List l6T) ((Int × List l6T) ⊕ Unit)) (h : m62_2b rc a0 s = some o) : evCL T 0 k62_2b (E62_2 a0 x2 s).1 (E62_2 a0 x2 s).2 = some (ctlX (E62_2 a0 x2) (X62_2 a0 x2) o) := by
  unfold m62_2b at h
  obtain ⟨s27, s28, s29⟩ := s
  replace h := sel3_some h
  try simp -implicitDefEqProofs only [go_sem, Nat.reduceLT, Nat.reduceAdd, Nat.reduceSub, Nat.reduceMul, Nat.reduceEqDiff, Nat.reduceBEq, Nat.reduceLeDiff, Int.reduceToNat, Int.reduceLT, Int.reduceLE, Int.reduceEq, reduceCtorEq, ↓reduceIte, E62_2, X62_2, k62_2b]
  cases b30 : (ltI 0 s28 : Bool)
  · replace h := br_f b30 h
    cases h
    simp -implicitDefEqProofs only [go_sem, Nat.reduceLT, Nat.reduceAdd, Nat.reduceSub, Nat.reduceMul, Nat.reduceEqDiff, Nat.reduceBEq, Nat.reduceLeDiff, Int.reduceToNat, Int.reduceLT, Int.reduceLE, Int.reduceEq, reduceCtorEq, ↓reduceIte, E62_2, X62_2, k62_2b, b30]
  · replace h := br_t b30 h
    obtain ⟨⟨r33, r34⟩, q31, h⟩ := bnd_some h
    replace h := sel2_some h
    have w32 := hrc a0 s27 (r33, r34) q31
    try simp -implicitDefEqProofs only [go_sem, Nat.reduceLT, Nat.reduceAdd, Nat.reduceSub, Nat.reduceMul, Nat.reduceEqDiff, Nat.reduceBEq, Nat.reduceLeDiff, Int.reduceToNat, Int.reduceLT, Int.reduceLE, Int.reduceEq, reduceCtorEq, ↓reduceIte] at w32
    try simp -implicitDefEqProofs only [go_sem, Nat.reduceLT, Nat.reduceAdd, Nat.reduceSub, Nat.reduceMul, Nat.reduceEqDiff, Nat.reduceBEq, Nat.reduceLeDiff, Int.reduceToNat, Int.reduceLT, Int.reduceLE, Int.reduceEq, reduceCtorEq, ↓reduceIte, E62_2, X62_2, k62_2b, b30, w32]
    cases b35 : (eqI r34 0 : Bool)
    · replace h := br_f b35 h
      obtain ⟨g36, h⟩ := ck_some h
      try simp -implicitDefEqProofs only [go_sem, Nat.reduceLT, Nat.reduceAdd, Nat.reduceSub, Nat.reduceMul, Nat.reduceEqDiff, Nat.reduceBEq, Nat.reduceLeDiff, Int.reduceToNat, Int.reduceLT, Int.reduceLE, Int.reduceEq, reduceCtorEq, ↓reduceIte] at g36
      cases h
      simp -implicitDefEqProofs only [go_sem, Nat.reduceLT, Nat.reduceAdd, Nat.reduceSub, Nat.reduceMul, Nat.reduceEqDiff, Nat.reduceBEq, Nat.reduceLeDiff, Int.reduceToNat, Int.reduceLT, Int.reduceLE, Int.reduceEq, reduceCtorEq, ↓reduceIte, E62_2, X62_2, k62_2b, b30, w32, b35, g36]
    · replace h := br_t b35 h
      cases h
      simp -implicitDefEqProofs only [go_sem, Nat.reduceLT, Nat.reduceAdd, Nat.reduceSub, Nat.reduceMul, Nat.reduceEqDiff, Nat.reduceBEq, Nat.reduceLeDiff, Int.reduceToNat, Int.reduceLT, Int.reduceLE, Int.reduceEq, reduceCtorEq, ↓reduceIte, E62_2, X62_2, k62_2b, b30, w32, b35]
theorem e62_2 (rc : (List ReCell) → Int → Option (l6T × Int)) (hrc : ∀ (a0 : (List ReCell)) (a1 : Int) (r : (l6T × Int)), rc a0 a1 = some r → evFL T 62 [.ts .imm 2 (a0.map encReCell), .int .i64 a1] [] = some (.tup [.agg [.int .i64 r.1.kind_, .int .i64 r.1.n_, .sl 0 0 r.1.kids_.length], .int .i64 r.2], [some ⟨.arr, 3, r.1.kids_.map (encl6T .own)⟩])) (a0 : (List ReCell)) (x2 : ReCell) (s : (Int × Int × List l6T)) (o : ((Int × List l6T) ⊕ Unit)) (h : loopP (m62_2b rc a0) s = some o) : evCL T 0 (.loop k62_2b) (E62_2 a0 x2 s).1 (E62_2 a0 x2 s).2 = some (X62_2 a0 x2 o) :=
  loop_walk (E := E62_2 a0 x2) (X := X62_2 a0 x2) (by intro b; rcases b with b | b <;> (simp only [X62_2]; nofun)) (b62_2 rc hrc a0 x2) s o h
theorem e62r (rc : (List ReCell) → Int → Option (l6T × Int)) (hrc : ∀ (a0 : (List ReCell)) (a1 : Int) (r : (l6T × Int)), rc a0 a1 = some r → evFL T 62 [.ts .imm 2 (a0.map encReCell), .int .i64 a1] [] = some (.tup [.agg [.int .i64 r.1.kind_, .int .i64 r.1.n_, .sl 0 0 r.1.kids_.length], .int .i64 r.2], [some ⟨.arr, 3, r.1.kids_.map (encl6T .own)⟩])) (a0 : (List ReCell)) (a1 : Int) (r : (l6T × Int)) (h : m62r rc a0 a1 = some r) : evFL T 62 [.ts .imm 2 (a0.map encReCell), .int .i64 a1] [] = some (.tup [.agg [.int .i64 r.1.kind_, .int .i64 r.1.n_, .sl 0 0 r.1.kids_.length], .int .i64 r.2], [some ⟨.arr, 3, r.1.kids_.map (encl6T .own)⟩]) := by
  unfold m62r at h
  rw [evFL_at fn62 (Nat.le_of_ble_eq_true rfl) rfl (.inr rfl) ⟨rfl, rfl⟩]
  try simp -implicitDefEqProofs only [go_sem, Nat.reduceLT, Nat.reduceAdd, Nat.reduceSub, Nat.reduceMul, Nat.reduceEqDiff, Nat.reduceBEq, Nat.reduceLeDiff, Int.reduceToNat, Int.reduceLT, Int.reduceLE, Int.reduceEq, reduceCtorEq, ↓reduceIte, i62, c62]
  cases b1 : (leI (↑a0.length : Int) a1 : Bool)
  · replace h := br_f b1 h
    obtain ⟨x2, q3, h⟩ := bnd_some h
    obtain ⟨g4, g5, g6⟩ := idx_row encReCell q3
    try simp -implicitDefEqProofs only [go_sem, Nat.reduceLT, Nat.reduceAdd, Nat.reduceSub, Nat.reduceMul, Nat.reduceEqDiff, Nat.reduceBEq, Nat.reduceLeDiff, Int.reduceToNat, Int.reduceLT, Int.reduceLE, Int.reduceEq, reduceCtorEq, ↓reduceIte] at g5
    try simp -implicitDefEqProofs only [go_sem, Nat.reduceLT, Nat.reduceAdd, Nat.reduceSub, Nat.reduceMul, Nat.reduceEqDiff, Nat.reduceBEq, Nat.reduceLeDiff, Int.reduceToNat, Int.reduceLT, Int.reduceLE, Int.reduceEq, reduceCtorEq, ↓reduceIte] at g6
    obtain ⟨r9, q7, h⟩ := bnd_some h
    have w8 := e78 x2.kind r9 q7
    try simp -implicitDefEqProofs only [go_sem, Nat.reduceLT, Nat.reduceAdd, Nat.reduceSub, Nat.reduceMul, Nat.reduceEqDiff, Nat.reduceBEq, Nat.reduceLeDiff, Int.reduceToNat, Int.reduceLT, Int.reduceLE, Int.reduceEq, reduceCtorEq, ↓reduceIte] at w8
    obtain ⟨v18, q16, h⟩ := bnd_some h
    have w17 := e62_1 rc hrc a0 a1 r9 x2 v18 q16
    simp only [X62_1] at w17
    try simp -implicitDefEqProofs only [go_sem, Nat.reduceLT, Nat.reduceAdd, Nat.reduceSub, Nat.reduceMul, Nat.reduceEqDiff, Nat.reduceBEq, Nat.reduceLeDiff, Int.reduceToNat, Int.reduceLT, Int.reduceLE, Int.reduceEq, reduceCtorEq, ↓reduceIte] at w17
    try simp -implicitDefEqProofs only [go_sem, Nat.reduceLT, Nat.reduceAdd, Nat.reduceSub, Nat.reduceMul, Nat.reduceEqDiff, Nat.reduceBEq, Nat.reduceLeDiff, Int.reduceToNat, Int.reduceLT, Int.reduceLE, Int.reduceEq, reduceCtorEq, ↓reduceIte, i62, c62, b1, g4, g5, g6, w8, w17]
    cases b19 : (v18 : Bool)
    · replace h := br_f b19 h
      try simp -implicitDefEqProofs only [go_sem, Nat.reduceLT, Nat.reduceAdd, Nat.reduceSub, Nat.reduceMul, Nat.reduceEqDiff, Nat.reduceBEq, Nat.reduceLeDiff, Int.reduceToNat, Int.reduceLT, Int.reduceLE, Int.reduceEq, reduceCtorEq, ↓reduceIte, i62, c62, b1, g4, g5, g6, w8, w17, b19]
      obtain ⟨o, q37, h⟩ := bnd_some h
      rcases o with ⟨v39, v40⟩ | ⟨⟩
      · replace h := selS_l h
        replace h := sel2_some h
        have w38 := e62_2 rc hrc a0 x2 (wadd .i64 a1 1, r9, []) (.inl (v39, v40)) q37
        simp only [E62_2, X62_2] at w38
        try simp -implicitDefEqProofs only [go_sem, Nat.reduceLT, Nat.reduceAdd, Nat.reduceSub, Nat.reduceMul, Nat.reduceEqDiff, Nat.reduceBEq, Nat.reduceLeDiff, Int.reduceToNat, Int.reduceLT, Int.reduceLE, Int.reduceEq, reduceCtorEq, ↓reduceIte] at w38
        cases h
        simp -implicitDefEqProofs only [go_sem, Nat.reduceLT, Nat.reduceAdd, Nat.reduceSub, Nat.reduceMul, Nat.reduceEqDiff, Nat.reduceBEq, Nat.reduceLeDiff, Int.reduceToNat, Int.reduceLT, Int.reduceLE, Int.reduceEq, reduceCtorEq, ↓reduceIte, i62, c62, b1, g4, g5, g6, w8, w17, b19, w38]
      · replace h := selS_r h
        have w38 := e62_2 rc hrc a0 x2 (wadd .i64 a1 1, r9, []) (.inr ()) q37
        simp only [E62_2, X62_2] at w38
        try simp -implicitDefEqProofs only [go_sem, Nat.reduceLT, Nat.reduceAdd, Nat.reduceSub, Nat.reduceMul, Nat.reduceEqDiff, Nat.reduceBEq, Nat.reduceLeDiff, Int.reduceToNat, Int.reduceLT, Int.reduceLE, Int.reduceEq, reduceCtorEq, ↓reduceIte] at w38
        cases h
        simp -implicitDefEqProofs only [go_sem, Nat.reduceLT, Nat.reduceAdd, Nat.reduceSub, Nat.reduceMul, Nat.reduceEqDiff, Nat.reduceBEq, Nat.reduceLeDiff, Int.reduceToNat, Int.reduceLT, Int.reduceLE, Int.reduceEq, reduceCtorEq, ↓reduceIte, i62, c62, b1, g4, g5, g6, w8, w17, b19, w38]
    · replace h := br_t b19 h
      cases h
      simp -implicitDefEqProofs only [go_sem, Nat.reduceLT, Nat.reduceAdd, Nat.reduceSub, Nat.reduceMul, Nat.reduceEqDiff, Nat.reduceBEq, Nat.reduceLeDiff, Int.reduceToNat, Int.reduceLT, Int.reduceLE, Int.reduceEq, reduceCtorEq, ↓reduceIte, i62, c62, b1, g4, g5, g6, w8, w17, b19]
  · replace h := br_t b1 h
    cases h
    simp -implicitDefEqProofs only [go_sem, Nat.reduceLT, Nat.reduceAdd, Nat.reduceSub, Nat.reduceMul, Nat.reduceEqDiff, Nat.reduceBEq, Nat.reduceLeDiff, Int.reduceToNat, Int.reduceLT, Int.reduceLE, Int.reduceEq, reduceCtorEq, ↓reduceIte, i62, c62, b1]
theorem e62k : ∀ (k : Nat) (a0 : (List ReCell)) (a1 : Int) (r : (l6T × Int)) (h : m62k k a0 a1 = some r), evFL T 62 [.ts .imm 2 (a0.map encReCell), .int .i64 a1] [] = some (.tup [.agg [.int .i64 r.1.kind_, .int .i64 r.1.n_, .sl 0 0 r.1.kids_.length], .int .i64 r.2], [some ⟨.arr, 3, r.1.kids_.map (encl6T .own)⟩]) := by
  intro k
  induction k with
  | zero => intro a0 a1 r h; cases h
  | succ k ih => intro a0 a1 r h; exact e62r (m62k k) (fun a0 a1 r h => ih a0 a1 r h) a0 a1 r h
theorem e62 (a0 : (List ReCell)) (a1 : Int) (r : (l6T × Int)) (h : m62 a0 a1 = some r) : evFL T 62 [.ts .imm 2 (a0.map encReCell), .int .i64 a1] [] = some (.tup [.agg [.int .i64 r.1.kind_, .int .i64 r.1.n_, .sl 0 0 r.1.kids_.length], .int .i64 r.2], [some ⟨.arr, 3, r.1.kids_.map (encl6T .own)⟩]) := by
  obtain ⟨N, hN⟩ := limO_iff.1 h
  exact e62k N a0 a1 r (hN N (Nat.le_refl N))
-- f28 spec.l6Tree
theorem call28 (args : List AV) (S : St) : evCall T (evFL T) 28 args S = lendC (evFL T 28) S (lendAll S [[2]] args) := evCall0 fn28 rfl rfl rfl args S
theorem callz28 (args : List AV) (S : St) : evCallFz T (evFL T) 28 args S = lendZ (evFL T 28) S [[0, 0, 3], [0]] (lendAll S [[2]] args) := evCallFz0 fn28 rfl rfl rfl args S
attribute [go_sem] call28 callz28
noncomputable def X28_1 (a0 : (List ReCell)) (r5 : Int) (r4 : l6T) (o : Bool) : Ex × Fr × St :=
  (.normal, frOf 24 (upd (upd anyF 2 (.ptr 0 0 0)) 3 (.bool o)), [some ⟨.box, 3, [[.int .i64 r4.kind_, .int .i64 r4.n_, .sl 1 0 r4.kids_.length]]⟩, some ⟨.arr, 3, r4.kids_.map (encl6T .own)⟩])
theorem e28_1 (a0 : (List ReCell)) (r5 : Int) (r4 : l6T) (o : Bool) (h : m28_1 a0 r5 = some o) : evCL T 0 k28_1 (frOf 24 (upd (upd (upd (upd anyF 0 (.ts .imm 2 (a0.map encReCell))) 2 (.ptr 0 0 0)) 4 (.ptr 2 0 0)) 5 (.int .i64 r5))) [some ⟨.box, 3, [[.int .i64 0, .int .i64 0, .sl 1 0 0]]⟩, some ⟨.arr, 3, []⟩, some ⟨.box, 3, [[.int .i64 r4.kind_, .int .i64 r4.n_, .sl 3 0 r4.kids_.length]]⟩, some ⟨.arr, 3, r4.kids_.map (encl6T .own)⟩] = some (X28_1 a0 r5 r4 o) := by
  unfold m28_1 at h
  try simp -implicitDefEqProofs only [go_sem, Nat.reduceLT, Nat.reduceAdd, Nat.reduceSub, Nat.reduceMul, Nat.reduceEqDiff, Nat.reduceBEq, Nat.reduceLeDiff, Int.reduceToNat, Int.reduceLT, Int.reduceLE, Int.reduceEq, reduceCtorEq, ↓reduceIte, X28_1, k28_1]
  cases b6 : (ltI 0 r5 : Bool)
  · replace h := br_f b6 h
    cases h
    simp -implicitDefEqProofs only [go_sem, Nat.reduceLT, Nat.reduceAdd, Nat.reduceSub, Nat.reduceMul, Nat.reduceEqDiff, Nat.reduceBEq, Nat.reduceLeDiff, Int.reduceToNat, Int.reduceLT, Int.reduceLE, Int.reduceEq, reduceCtorEq, ↓reduceIte, X28_1, k28_1, b6]
  · replace h := br_t b6 h
    cases h
    simp -implicitDefEqProofs only [go_sem, Nat.reduceLT, Nat.reduceAdd, Nat.reduceSub, Nat.reduceMul, Nat.reduceEqDiff, Nat.reduceBEq, Nat.reduceLeDiff, Int.reduceToNat, Int.reduceLT, Int.reduceLE, Int.reduceEq, reduceCtorEq, ↓reduceIte, X28_1, k28_1, b6]
theorem e28 (a0 : (List ReCell)) (r : (l6T × Bool)) (h : m28 a0 = some r) : evFL T 28 [.ts .imm 2 (a0.map encReCell)] [] = some (.tup [.agg [.int .i64 r.1.kind_, .int .i64 r.1.n_, .sl 0 0 r.1.kids_.length], .bool r.2], [some ⟨.arr, 3, r.1.kids_.map (encl6T .own)⟩]) := by
  unfold m28 at h
  rw [evFL_at fn28 (Nat.le_of_ble_eq_true rfl) rfl (.inr rfl) ⟨rfl, rfl⟩]
  try simp -implicitDefEqProofs only [go_sem, Nat.reduceLT, Nat.reduceAdd, Nat.reduceSub, Nat.reduceMul, Nat.reduceEqDiff, Nat.reduceBEq, Nat.reduceLeDiff, Int.reduceToNat, Int.reduceLT, Int.reduceLE, Int.reduceEq, reduceCtorEq, ↓reduceIte, i28, c28]
  cases b1 : (ltI 30 (↑a0.length : Int) : Bool)
  · replace h := br_f b1 h
    obtain ⟨⟨r4, r5⟩, q2, h⟩ := bnd_some h
    replace h := sel2_some h
    have w3 := e62 a0 0 (r4, r5) q2
    try simp -implicitDefEqProofs only [go_sem, Nat.reduceLT, Nat.reduceAdd, Nat.reduceSub, Nat.reduceMul, Nat.reduceEqDiff, Nat.reduceBEq, Nat.reduceLeDiff, Int.reduceToNat, Int.reduceLT, Int.reduceLE, Int.reduceEq, reduceCtorEq, ↓reduceIte] at w3
    obtain ⟨v9, q7, h⟩ := bnd_some h
    have w8 := e28_1 a0 r5 r4 v9 q7
    simp only [X28_1] at w8
    try simp -implicitDefEqProofs only [go_sem, Nat.reduceLT, Nat.reduceAdd, Nat.reduceSub, Nat.reduceMul, Nat.reduceEqDiff, Nat.reduceBEq, Nat.reduceLeDiff, Int.reduceToNat, Int.reduceLT, Int.reduceLE, Int.reduceEq, reduceCtorEq, ↓reduceIte] at w8
    cases h
    simp -implicitDefEqProofs only [go_sem, Nat.reduceLT, Nat.reduceAdd, Nat.reduceSub, Nat.reduceMul, Nat.reduceEqDiff, Nat.reduceBEq, Nat.reduceLeDiff, Int.reduceToNat, Int.reduceLT, Int.reduceLE, Int.reduceEq, reduceCtorEq, ↓reduceIte, i28, c28, b1, w3, w8]
  · replace h := br_t b1 h
    cases h
    simp -implicitDefEqProofs only [go_sem, Nat.reduceLT, Nat.reduceAdd, Nat.reduceSub, Nat.reduceMul, Nat.reduceEqDiff, Nat.reduceBEq, Nat.reduceLeDiff, Int.reduceToNat, Int.reduceLT, Int.reduceLE, Int.reduceEq, reduceCtorEq, ↓reduceIte, i28, c28, b1]
-- f66 spec.l6Empty
theorem call66 (args : List AV) (S : St) : evCall T (evFL T) 66 args S = lendC (evFL T 66) S (lendAll S [[0, 0, 3]] args) := evCall0 fn66 rfl rfl rfl args S
theorem callz66 (args : List AV) (S : St) : evCallFz T (evFL T) 66 args S = lendZ (evFL T 66) S [[0]] (lendAll S [[0, 0, 3]] args) := evCallFz0 fn66 rfl rfl rfl args S
attribute [go_sem] call66 callz66
noncomputable def X66_1 (a0 : l6T) (p1 : Bool) (o : Bool) : Ex × Fr × St :=
  (.normal, frOf 36 (upd (upd (upd anyF 1 (.ptr 0 0 0)) 4 (.int .i64 a0.kind_)) 5 (.bool o)), [some ⟨.box, 3, [[.int .i64 a0.kind_, .int .i64 a0.n_, .ts .imm 3 (a0.kids_.map (encl6T .imm))]]⟩])
theorem e66_1 (rc : l6T → Option Bool) (hrc : ∀ (a0 : l6T) (r : Bool), rc a0 = some r → evFL T 66 [.agg [.int .i64 a0.kind_, .int .i64 a0.n_, .ts .imm 3 (a0.kids_.map (encl6T .imm))]] [] = some (.bool r, [])) (a0 : l6T) (p1 : Bool) (o : Bool) (h : m66_1 rc a0 p1 = some o) : evCL T 0 k66_1 (frOf 36 (upd (upd (upd anyF 1 (.ptr 0 0 0)) 4 (.int .i64 a0.kind_)) 5 (.bool p1))) [some ⟨.box, 3, [[.int .i64 a0.kind_, .int .i64 a0.n_, .ts .imm 3 (a0.kids_.map (encl6T .imm))]]⟩] = some (X66_1 a0 p1 o) := by
  unfold m66_1 at h
  try simp -implicitDefEqProofs only [go_sem, Nat.reduceLT, Nat.reduceAdd, Nat.reduceSub, Nat.reduceMul, Nat.reduceEqDiff, Nat.reduceBEq, Nat.reduceLeDiff, Int.reduceToNat, Int.reduceLT, Int.reduceLE, Int.reduceEq, reduceCtorEq, ↓reduceIte, X66_1, k66_1]
  cases b2 : (p1 : Bool)
  · replace h := br_f b2 h
    cases h
    simp -implicitDefEqProofs only [go_sem, Nat.reduceLT, Nat.reduceAdd, Nat.reduceSub, Nat.reduceMul, Nat.reduceEqDiff, Nat.reduceBEq, Nat.reduceLeDiff, Int.reduceToNat, Int.reduceLT, Int.reduceLE, Int.reduceEq, reduceCtorEq, ↓reduceIte, X66_1, k66_1, b2]
  · replace h := br_t b2 h
    cases h
    simp -implicitDefEqProofs only [go_sem, Nat.reduceLT, Nat.reduceAdd, Nat.reduceSub, Nat.reduceMul, Nat.reduceEqDiff, Nat.reduceBEq, Nat.reduceLeDiff, Int.reduceToNat, Int.reduceLT, Int.reduceLE, Int.reduceEq, reduceCtorEq, ↓reduceIte, X66_1, k66_1, b2]
noncomputable def X66_2 (a0 : l6T) (o : Bool) : Ex × Fr × St :=
  (.normal, frOf 36 (upd anyF 2 (.bool o)), [])
theorem e66_2 (rc : l6T → Option Bool) (hrc : ∀ (a0 : l6T) (r : Bool), rc a0 = some r → evFL T 66 [.agg [.int .i64 a0.kind_, .int .i64 a0.n_, .ts .imm 3 (a0.kids_.map (encl6T .imm))]] [] = some (.bool r, [])) (a0 : l6T) (o : Bool) (h : m66_2 rc a0 = some o) : evCL T 0 k66_2 (frOf 36 (upd anyF 1 (.ptr 0 0 0))) [some ⟨.box, 3, [[.int .i64 a0.kind_, .int .i64 a0.n_, .ts .imm 3 (a0.kids_.map (encl6T .imm))]]⟩] = some (X66_2 a0 o) := by
  unfold m66_2 at h
  obtain ⟨x8, q9, h⟩ := bnd_some h
  obtain ⟨g10, g11, g12⟩ := idx_row (encl6T .imm) q9
  try simp -implicitDefEqProofs only [go_sem, Nat.reduceLT, Nat.reduceAdd, Nat.reduceSub, Nat.reduceMul, Nat.reduceEqDiff, Nat.reduceBEq, Nat.reduceLeDiff, Int.reduceToNat, Int.reduceLT, Int.reduceLE, Int.reduceEq, reduceCtorEq, ↓reduceIte] at g11
  try simp -implicitDefEqProofs only [go_sem, Nat.reduceLT, Nat.reduceAdd, Nat.reduceSub, Nat.reduceMul, Nat.reduceEqDiff, Nat.reduceBEq, Nat.reduceLeDiff, Int.reduceToNat, Int.reduceLT, Int.reduceLE, Int.reduceEq, reduceCtorEq, ↓reduceIte] at g12
  obtain ⟨r15, q13, h⟩ := bnd_some h
  have w14 := hrc x8 r15 q13
  try simp -implicitDefEqProofs only [go_sem, Nat.reduceLT, Nat.reduceAdd, Nat.reduceSub, Nat.reduceMul, Nat.reduceEqDiff, Nat.reduceBEq, Nat.reduceLeDiff, Int.reduceToNat, Int.reduceLT, Int.reduceLE, Int.reduceEq, reduceCtorEq, ↓reduceIte] at w14
  try simp -implicitDefEqProofs only [go_sem, Nat.reduceLT, Nat.reduceAdd, Nat.reduceSub, Nat.reduceMul, Nat.reduceEqDiff, Nat.reduceBEq, Nat.reduceLeDiff, Int.reduceToNat, Int.reduceLT, Int.reduceLE, Int.reduceEq, reduceCtorEq, ↓reduceIte, X66_2, k66_2, g10, g11, g12, w14]
  cases b16 : (r15 : Bool)
  · replace h := br_f b16 h
    cases h
    simp -implicitDefEqProofs only [go_sem, Nat.reduceLT, Nat.reduceAdd, Nat.reduceSub, Nat.reduceMul, Nat.reduceEqDiff, Nat.reduceBEq, Nat.reduceLeDiff, Int.reduceToNat, Int.reduceLT, Int.reduceLE, Int.reduceEq, reduceCtorEq, ↓reduceIte, X66_2, k66_2, g10, g11, g12, w14, b16]
  · replace h := br_t b16 h
    obtain ⟨x17, q18, h⟩ := bnd_some h
    obtain ⟨g19, g20, g21⟩ := idx_row (encl6T .imm) q18
    try simp -implicitDefEqProofs only [go_sem, Nat.reduceLT, Nat.reduceAdd, Nat.reduceSub, Nat.reduceMul, Nat.reduceEqDiff, Nat.reduceBEq, Nat.reduceLeDiff, Int.reduceToNat, Int.reduceLT, Int.reduceLE, Int.reduceEq, reduceCtorEq, ↓reduceIte] at g20
    try simp -implicitDefEqProofs only [go_sem, Nat.reduceLT, Nat.reduceAdd, Nat.reduceSub, Nat.reduceMul, Nat.reduceEqDiff, Nat.reduceBEq, Nat.reduceLeDiff, Int.reduceToNat, Int.reduceLT, Int.reduceLE, Int.reduceEq, reduceCtorEq, ↓reduceIte] at g21
    obtain ⟨r24, q22, h⟩ := bnd_some h
    have w23 := hrc x17 r24 q22
    try simp -implicitDefEqProofs only [go_sem, Nat.reduceLT, Nat.reduceAdd, Nat.reduceSub, Nat.reduceMul, Nat.reduceEqDiff, Nat.reduceBEq, Nat.reduceLeDiff, Int.reduceToNat, Int.reduceLT, Int.reduceLE, Int.reduceEq, reduceCtorEq, ↓reduceIte] at w23
    cases h
    simp -implicitDefEqProofs only [go_sem, Nat.reduceLT, Nat.reduceAdd, Nat.reduceSub, Nat.reduceMul, Nat.reduceEqDiff, Nat.reduceBEq, Nat.reduceLeDiff, Int.reduceToNat, Int.reduceLT, Int.reduceLE, Int.reduceEq, reduceCtorEq, ↓reduceIte, X66_2, k66_2, g10, g11, g12, w14, b16, g19, g20, g21, w23]
noncomputable def X66_3 (a0 : l6T) (o : Bool) : Ex × Fr × St :=
  (.normal, frOf 36 (upd anyF 2 (.bool o)), [])
theorem e66_3 (rc : l6T → Option Bool) (hrc : ∀ (a0 : l6T) (r : Bool), rc a0 = some r → evFL T 66 [.agg [.int .i64 a0.kind_, .int .i64 a0.n_, .ts .imm 3 (a0.kids_.map (encl6T .imm))]] [] = some (.bool r, [])) (a0 : l6T) (o : Bool) (h : m66_3 rc a0 = some o) : evCL T 0 k66_3 (frOf 36 (upd anyF 1 (.ptr 0 0 0))) [some ⟨.box, 3, [[.int .i64 a0.kind_, .int .i64 a0.n_, .ts .imm 3 (a0.kids_.map (encl6T .imm))]]⟩] = some (X66_3 a0 o) := by
  unfold m66_3 at h
  obtain ⟨x29, q30, h⟩ := bnd_some h
  obtain ⟨g31, g32, g33⟩ := idx_row (encl6T .imm) q30
  try simp -implicitDefEqProofs only [go_sem, Nat.reduceLT, Nat.reduceAdd, Nat.reduceSub, Nat.reduceMul, Nat.reduceEqDiff, Nat.reduceBEq, Nat.reduceLeDiff, Int.reduceToNat, Int.reduceLT, Int.reduceLE, Int.reduceEq, reduceCtorEq, ↓reduceIte] at g32
  try simp -implicitDefEqProofs only [go_sem, Nat.reduceLT, Nat.reduceAdd, Nat.reduceSub, Nat.reduceMul, Nat.reduceEqDiff, Nat.reduceBEq, Nat.reduceLeDiff, Int.reduceToNat, Int.reduceLT, Int.reduceLE, Int.reduceEq, reduceCtorEq, ↓reduceIte] at g33
  obtain ⟨r36, q34, h⟩ := bnd_some h
  have w35 := hrc x29 r36 q34
  try simp -implicitDefEqProofs only [go_sem, Nat.reduceLT, Nat.reduceAdd, Nat.reduceSub, Nat.reduceMul, Nat.reduceEqDiff, Nat.reduceBEq, Nat.reduceLeDiff, Int.reduceToNat, Int.reduceLT, Int.reduceLE, Int.reduceEq, reduceCtorEq, ↓reduceIte] at w35
  try simp -implicitDefEqProofs only [go_sem, Nat.reduceLT, Nat.reduceAdd, Nat.reduceSub, Nat.reduceMul, Nat.reduceEqDiff, Nat.reduceBEq, Nat.reduceLeDiff, Int.reduceToNat, Int.reduceLT, Int.reduceLE, Int.reduceEq, reduceCtorEq, ↓reduceIte, X66_3, k66_3, g31, g32, g33, w35]
  cases b37 : (r36 : Bool)
  · replace h := br_f b37 h
    obtain ⟨x38, q39, h⟩ := bnd_some h
    obtain ⟨g40, g41, g42⟩ := idx_row (encl6T .imm) q39
    try simp -implicitDefEqProofs only [go_sem, Nat.reduceLT, Nat.reduceAdd, Nat.reduceSub, Nat.reduceMul, Nat.reduceEqDiff, Nat.reduceBEq, Nat.reduceLeDiff, Int.reduceToNat, Int.reduceLT, Int.reduceLE, Int.reduceEq, reduceCtorEq, ↓reduceIte] at g41
    try simp -implicitDefEqProofs only [go_sem, Nat.reduceLT, Nat.reduceAdd, Nat.reduceSub, Nat.reduceMul, Nat.reduceEqDiff, Nat.reduceBEq, Nat.reduceLeDiff, Int.reduceToNat, Int.reduceLT, Int.reduceLE, Int.reduceEq, reduceCtorEq, ↓reduceIte] at g42
    obtain ⟨r45, q43, h⟩ := bnd_some h
    have w44 := hrc x38 r45 q43
    try simp -implicitDefEqProofs only [go_sem, Nat.reduceLT, Nat.reduceAdd, Nat.reduceSub, Nat.reduceMul, Nat.reduceEqDiff, Nat.reduceBEq, Nat.reduceLeDiff, Int.reduceToNat, Int.reduceLT, Int.reduceLE, Int.reduceEq, reduceCtorEq, ↓reduceIte] at w44
    cases h
    simp -implicitDefEqProofs only [go_sem, Nat.reduceLT, Nat.reduceAdd, Nat.reduceSub, Nat.reduceMul, Nat.reduceEqDiff, Nat.reduceBEq, Nat.reduceLeDiff, Int.reduceToNat, Int.reduceLT, Int.reduceLE, Int.reduceEq, reduceCtorEq, ↓reduceIte, X66_3, k66_3, g31, g32, g33, w35, b37, g40, g41, g42, w44]
  · replace h := br_t b37 h
    cases h
    simp -implicitDefEqProofs only [go_sem, Nat.reduceLT, Nat.reduceAdd, Nat.reduceSub, Nat.reduceMul, Nat.reduceEqDiff, Nat.reduceBEq, Nat.reduceLeDiff, Int.reduceToNat, Int.reduceLT, Int.reduceLE, Int.reduceEq, reduceCtorEq, ↓reduceIte, X66_3, k66_3, g31, g32, g33, w35, b37]
theorem e66r (rc : l6T → Option Bool) (hrc : ∀ (a0 : l6T) (r : Bool), rc a0 = some r → evFL T 66 [.agg [.int .i64 a0.kind_, .int .i64 a0.n_, .ts .imm 3 (a0.kids_.map (encl6T .imm))]] [] = some (.bool r, [])) (a0 : l6T) (r : Bool) (h : m66r rc a0 = some r) : evFL T 66 [.agg [.int .i64 a0.kind_, .int .i64 a0.n_, .ts .imm 3 (a0.kids_.map (encl6T .imm))]] [] = some (.bool r, []) := by
  unfold m66r at h
  rw [evFL_at fn66 (Nat.le_of_ble_eq_true rfl) rfl (.inr rfl) ⟨rfl, rfl⟩]
  obtain ⟨v5, q3, h⟩ := bnd_some h
  have w4 := e66_1 rc hrc a0 (eqI a0.kind_ 2) v5 q3
  simp only [X66_1] at w4
  try simp -implicitDefEqProofs only [go_sem, Nat.reduceLT, Nat.reduceAdd, Nat.reduceSub, Nat.reduceMul, Nat.reduceEqDiff, Nat.reduceBEq, Nat.reduceLeDiff, Int.reduceToNat, Int.reduceLT, Int.reduceLE, Int.reduceEq, reduceCtorEq, ↓reduceIte] at w4
  try simp -implicitDefEqProofs only [go_sem, Nat.reduceLT, Nat.reduceAdd, Nat.reduceSub, Nat.reduceMul, Nat.reduceEqDiff, Nat.reduceBEq, Nat.reduceLeDiff, Int.reduceToNat, Int.reduceLT, Int.reduceLE, Int.reduceEq, reduceCtorEq, ↓reduceIte, i66, c66, w4]
  cases b6 : (v5 : Bool)
  · replace h := br_f b6 h
    try simp -implicitDefEqProofs only [go_sem, Nat.reduceLT, Nat.reduceAdd, Nat.reduceSub, Nat.reduceMul, Nat.reduceEqDiff, Nat.reduceBEq, Nat.reduceLeDiff, Int.reduceToNat, Int.reduceLT, Int.reduceLE, Int.reduceEq, reduceCtorEq, ↓reduceIte, i66, c66, w4, b6]
    cases b7 : (eqI a0.kind_ 5 : Bool)
    · replace h := br_f b7 h
      try simp -implicitDefEqProofs only [go_sem, Nat.reduceLT, Nat.reduceAdd, Nat.reduceSub, Nat.reduceMul, Nat.reduceEqDiff, Nat.reduceBEq, Nat.reduceLeDiff, Int.reduceToNat, Int.reduceLT, Int.reduceLE, Int.reduceEq, reduceCtorEq, ↓reduceIte, i66, c66, w4, b6, b7]
      cases b28 : (eqI a0.kind_ 6 : Bool)
      · replace h := br_f b28 h
        cases h
        simp -implicitDefEqProofs only [go_sem, Nat.reduceLT, Nat.reduceAdd, Nat.reduceSub, Nat.reduceMul, Nat.reduceEqDiff, Nat.reduceBEq, Nat.reduceLeDiff, Int.reduceToNat, Int.reduceLT, Int.reduceLE, Int.reduceEq, reduceCtorEq, ↓reduceIte, i66, c66, w4, b6, b7, b28]
      · replace h := br_t b28 h
        obtain ⟨v48, q46, h⟩ := bnd_some h
        have w47 := e66_3 rc hrc a0 v48 q46
        simp only [X66_3] at w47
        try simp -implicitDefEqProofs only [go_sem, Nat.reduceLT, Nat.reduceAdd, Nat.reduceSub, Nat.reduceMul, Nat.reduceEqDiff, Nat.reduceBEq, Nat.reduceLeDiff, Int.reduceToNat, Int.reduceLT, Int.reduceLE, Int.reduceEq, reduceCtorEq, ↓reduceIte] at w47
        cases h
        simp -implicitDefEqProofs only [go_sem, Nat.reduceLT, Nat.reduceAdd, Nat.reduceSub, Nat.reduceMul, Nat.reduceEqDiff, Nat.reduceBEq, Nat.reduceLeDiff, Int.reduceToNat, Int.reduceLT, Int.reduceLE, Int.reduceEq, reduceCtorEq, ↓reduceIte, i66, c66, w4, b6, b7, b28, w47]
    · replace h := br_t b7 h
      obtain ⟨v27, q25, h⟩ := bnd_some h
      have w26 := e66_2 rc hrc a0 v27 q25
      simp only [X66_2] at w26
      try simp -implicitDefEqProofs only [go_sem, Nat.reduceLT, Nat.reduceAdd, Nat.reduceSub, Nat.reduceMul, Nat.reduceEqDiff, Nat.reduceBEq, Nat.reduceLeDiff, Int.reduceToNat, Int.reduceLT, Int.reduceLE, Int.reduceEq, reduceCtorEq, ↓reduceIte] at w26
      cases h
      simp -implicitDefEqProofs only [go_sem, Nat.reduceLT, Nat.reduceAdd, Nat.reduceSub, Nat.reduceMul, Nat.reduceEqDiff, Nat.reduceBEq, Nat.reduceLeDiff, Int.reduceToNat, Int.reduceLT, Int.reduceLE, Int.reduceEq, reduceCtorEq, ↓reduceIte, i66, c66, w4, b6, b7, w26]
  · replace h := br_t b6 h
    cases h
    simp -implicitDefEqProofs only [go_sem, Nat.reduceLT, Nat.reduceAdd, Nat.reduceSub, Nat.reduceMul, Nat.reduceEqDiff, Nat.reduceBEq, Nat.reduceLeDiff, Int.reduceToNat, Int.reduceLT, Int.reduceLE, Int.reduceEq, reduceCtorEq, ↓reduceIte, i66, c66, w4, b6]
theorem e66k : ∀ (k : Nat) (a0 : l6T) (r : Bool) (h : m66k k a0 = some r), evFL T 66 [.agg [.int .i64 a0.kind_, .int .i64 a0.n_, .ts .imm 3 (a0.kids_.map (encl6T .imm))]] [] = some (.bool r, []) := by
  intro k
  induction k with
  | zero => intro a0 r h; cases h
  | succ k ih => intro a0 r h; exact e66r (m66k k) (fun a0 r h => ih a0 r h) a0 r h
theorem e66 (a0 : l6T) (r : Bool) (h : m66 a0 = some r) : evFL T 66 [.agg [.int .i64 a0.kind_, .int .i64 a0.n_, .ts .imm 3 (a0.kids_.map (encl6T .imm))]] [] = some (.bool r, []) := by
  obtain ⟨N, hN⟩ := limO_iff.1 h
  exact e66k N a0 r (hN N (Nat.le_refl N))
-- f39 spec.l6Derive
theorem call39 (args : List AV) (S : St) : evCall T (evFL T) 39 args S = treeC false (evFL T 39) S args (lendAll S [[0, 0, 3], [0]] args) := evCallT fn39 rfl rfl rfl args S
attribute [go_sem] call39
noncomputable def X39_1 (a1 : Int) (a0 : l6T) (p1 : Bool) (o : (Unit ⊕ (Int × List l6T))) : Ex × Fr × St :=
  match o with
  | .inl o => (.normal, frOf 78 (upd (upd anyF 4 (.ptr 0 0 0)) 5 (.ptr 2 0 0)), [some ⟨.box, 3, [[.int .i64 0, .int .i64 0, .sl 1 0 0]]⟩, some ⟨.arr, 3, []⟩, some ⟨.box, 3, [[.int .i64 1, .int .i64 0, .sl 3 0 0]]⟩, some ⟨.arr, 3, []⟩])
  | .inr o => (.ret, frOf 78 (upd anyF 4 (.ptr 0 0 0)), [some ⟨.box, 3, [[.int .i64 o.1, .int .i64 0, .ts .imm 3 (o.2.map (encl6T .imm))]]⟩])
theorem e39_1 (rc : l6T → Int → Option l6T) (hrc : ∀ (a0 : l6T) (a1 : Int) (r : l6T), rc a0 a1 = some r → evFL T 39 [.agg [.int .i64 a0.kind_, .int .i64 a0.n_, .ts .imm 3 (a0.kids_.map (encl6T .imm))], .int .i64 a1] [] = some (.agg [.int .i64 r.kind_, .int .i64 r.n_, .ts .imm 3 (r.kids_.map (encl6T .imm))], [])) (a1 : Int) (a0 : l6T) (p1 : Bool) (o : (Unit ⊕ (Int × List l6T))) (h : m39_1 rc a1 a0 p1 = some o) : evCL T 0 k39_1 (frOf 78 (upd (upd (upd (upd (upd (upd anyF 1 (.int .i64 a1)) 2 (.ptr 0 0 0)) 4 (.ptr 1 0 0)) 5 (.ptr 3 0 0)) 9 (.int .i64 a0.kind_)) 10 (.bool p1))) [some ⟨.box, 3, [[.int .i64 a0.kind_, .int .i64 a0.n_, .ts .imm 3 (a0.kids_.map (encl6T .imm))]]⟩, some ⟨.box, 3, [[.int .i64 0, .int .i64 0, .sl 2 0 0]]⟩, some ⟨.arr, 3, []⟩, some ⟨.box, 3, [[.int .i64 1, .int .i64 0, .sl 4 0 0]]⟩, some ⟨.arr, 3, []⟩] = some (X39_1 a1 a0 p1 o) := by
  unfold m39_1 at h
  try simp -implicitDefEqProofs only [go_sem, Nat.reduceLT, Nat.reduceAdd, Nat.reduceSub, Nat.reduceMul, Nat.reduceEqDiff, Nat.reduceBEq, Nat.reduceLeDiff, Int.reduceToNat, Int.reduceLT, Int.reduceLE, Int.reduceEq, reduceCtorEq, ↓reduceIte, X39_1, k39_1]
  cases b2 : (p1 : Bool)
  · replace h := br_f b2 h
    try simp -implicitDefEqProofs only [go_sem, Nat.reduceLT, Nat.reduceAdd, Nat.reduceSub, Nat.reduceMul, Nat.reduceEqDiff, Nat.reduceBEq, Nat.reduceLeDiff, Int.reduceToNat, Int.reduceLT, Int.reduceLE, Int.reduceEq, reduceCtorEq, ↓reduceIte, X39_1, k39_1, b2]
    cases b4 : (eqI a0.kind_ 4 : Bool)
    · replace h := br_f b4 h
      try simp -implicitDefEqProofs only [go_sem, Nat.reduceLT, Nat.reduceAdd, Nat.reduceSub, Nat.reduceMul, Nat.reduceEqDiff, Nat.reduceBEq, Nat.reduceLeDiff, Int.reduceToNat, Int.reduceLT, Int.reduceLE, Int.reduceEq, reduceCtorEq, ↓reduceIte, X39_1, k39_1, b2, b4]
      cases b5 : (eqI a0.kind_ 6 : Bool)
      · replace h := br_f b5 h
        try simp -implicitDefEqProofs only [go_sem, Nat.reduceLT, Nat.reduceAdd, Nat.reduceSub, Nat.reduceMul, Nat.reduceEqDiff, Nat.reduceBEq, Nat.reduceLeDiff, Int.reduceToNat, Int.reduceLT, Int.reduceLE, Int.reduceEq, reduceCtorEq, ↓reduceIte, X39_1, k39_1, b2, b4, b5]
        cases b22 : (eqI a0.kind_ 7 : Bool)
        · replace h := br_f b22 h
          try simp -implicitDefEqProofs only [go_sem, Nat.reduceLT, Nat.reduceAdd, Nat.reduceSub, Nat.reduceMul, Nat.reduceEqDiff, Nat.reduceBEq, Nat.reduceLeDiff, Int.reduceToNat, Int.reduceLT, Int.reduceLE, Int.reduceEq, reduceCtorEq, ↓reduceIte, X39_1, k39_1, b2, b4, b5, b22]
          cases b31 : (eqI a0.kind_ 5 : Bool)
          · replace h := br_f b31 h
            cases h
            simp -implicitDefEqProofs only [go_sem, Nat.reduceLT, Nat.reduceAdd, Nat.reduceSub, Nat.reduceMul, Nat.reduceEqDiff, Nat.reduceBEq, Nat.reduceLeDiff, Int.reduceToNat, Int.reduceLT, Int.reduceLE, Int.reduceEq, reduceCtorEq, ↓reduceIte, X39_1, k39_1, b2, b4, b5, b22, b31]
          · replace h := br_t b31 h
            obtain ⟨x32, q33, h⟩ := bnd_some h
            obtain ⟨g34, g35, g36⟩ := idx_row (encl6T .imm) q33
            try simp -implicitDefEqProofs only [go_sem, Nat.reduceLT, Nat.reduceAdd, Nat.reduceSub, Nat.reduceMul, Nat.reduceEqDiff, Nat.reduceBEq, Nat.reduceLeDiff, Int.reduceToNat, Int.reduceLT, Int.reduceLE, Int.reduceEq, reduceCtorEq, ↓reduceIte] at g35
            try simp -implicitDefEqProofs only [go_sem, Nat.reduceLT, Nat.reduceAdd, Nat.reduceSub, Nat.reduceMul, Nat.reduceEqDiff, Nat.reduceBEq, Nat.reduceLeDiff, Int.reduceToNat, Int.reduceLT, Int.reduceLE, Int.reduceEq, reduceCtorEq, ↓reduceIte] at g36
            obtain ⟨r39, q37, h⟩ := bnd_some h
            have w38 := hrc x32 a1 r39 q37
            try simp -implicitDefEqProofs only [go_sem, Nat.reduceLT, Nat.reduceAdd, Nat.reduceSub, Nat.reduceMul, Nat.reduceEqDiff, Nat.reduceBEq, Nat.reduceLeDiff, Int.reduceToNat, Int.reduceLT, Int.reduceLE, Int.reduceEq, reduceCtorEq, ↓reduceIte] at w38
            obtain ⟨x40, q41, h⟩ := bnd_some h
            obtain ⟨g42, g43, g44⟩ := idx_row (encl6T .imm) q41
            try simp -implicitDefEqProofs only [go_sem, Nat.reduceLT, Nat.reduceAdd, Nat.reduceSub, Nat.reduceMul, Nat.reduceEqDiff, Nat.reduceBEq, Nat.reduceLeDiff, Int.reduceToNat, Int.reduceLT, Int.reduceLE, Int.reduceEq, reduceCtorEq, ↓reduceIte] at g43
            try simp -implicitDefEqProofs only [go_sem, Nat.reduceLT, Nat.reduceAdd, Nat.reduceSub, Nat.reduceMul, Nat.reduceEqDiff, Nat.reduceBEq, Nat.reduceLeDiff, Int.reduceToNat, Int.reduceLT, Int.reduceLE, Int.reduceEq, reduceCtorEq, ↓reduceIte] at g44
            obtain ⟨r47, q45, h⟩ := bnd_some h
            have w46 := e66 x32 r47 q45
            try simp -implicitDefEqProofs only [go_sem, Nat.reduceLT, Nat.reduceAdd, Nat.reduceSub, Nat.reduceMul, Nat.reduceEqDiff, Nat.reduceBEq, Nat.reduceLeDiff, Int.reduceToNat, Int.reduceLT, Int.reduceLE, Int.reduceEq, reduceCtorEq, ↓reduceIte] at w46
            try simp -implicitDefEqProofs only [go_sem, Nat.reduceLT, Nat.reduceAdd, Nat.reduceSub, Nat.reduceMul, Nat.reduceEqDiff, Nat.reduceBEq, Nat.reduceLeDiff, Int.reduceToNat, Int.reduceLT, Int.reduceLE, Int.reduceEq, reduceCtorEq, ↓reduceIte, X39_1, k39_1, b2, b4, b5, b22, b31, g34, g35, g36, w38, g42, g43, g44, w46]
            cases b48 : (r47 : Bool)
            · replace h := br_f b48 h
              cases h
              simp -implicitDefEqProofs only [go_sem, Nat.reduceLT, Nat.reduceAdd, Nat.reduceSub, Nat.reduceMul, Nat.reduceEqDiff, Nat.reduceBEq, Nat.reduceLeDiff, Int.reduceToNat, Int.reduceLT, Int.reduceLE, Int.reduceEq, reduceCtorEq, ↓reduceIte, X39_1, k39_1, b2, b4, b5, b22, b31, g34, g35, g36, w38, g42, g43, g44, w46, b48]
            · replace h := br_t b48 h
              obtain ⟨r51, q49, h⟩ := bnd_some h
              have w50 := hrc x40 a1 r51 q49
              try simp -implicitDefEqProofs only [go_sem, Nat.reduceLT, Nat.reduceAdd, Nat.reduceSub, Nat.reduceMul, Nat.reduceEqDiff, Nat.reduceBEq, Nat.reduceLeDiff, Int.reduceToNat, Int.reduceLT, Int.reduceLE, Int.reduceEq, reduceCtorEq, ↓reduceIte] at w50
              cases h
              simp -implicitDefEqProofs only [go_sem, Nat.reduceLT, Nat.reduceAdd, Nat.reduceSub, Nat.reduceMul, Nat.reduceEqDiff, Nat.reduceBEq, Nat.reduceLeDiff, Int.reduceToNat, Int.reduceLT, Int.reduceLE, Int.reduceEq, reduceCtorEq, ↓reduceIte, X39_1, k39_1, b2, b4, b5, b22, b31, g34, g35, g36, w38, g42, g43, g44, w46, b48, w50]
        · replace h := br_t b22 h
          obtain ⟨x23, q24, h⟩ := bnd_some h
          obtain ⟨g25, g26, g27⟩ := idx_row (encl6T .imm) q24
          try simp -implicitDefEqProofs only [go_sem, Nat.reduceLT, Nat.reduceAdd, Nat.reduceSub, Nat.reduceMul, Nat.reduceEqDiff, Nat.reduceBEq, Nat.reduceLeDiff, Int.reduceToNat, Int.reduceLT, Int.reduceLE, Int.reduceEq, reduceCtorEq, ↓reduceIte] at g26
          try simp -implicitDefEqProofs only [go_sem, Nat.reduceLT, Nat.reduceAdd, Nat.reduceSub, Nat.reduceMul, Nat.reduceEqDiff, Nat.reduceBEq, Nat.reduceLeDiff, Int.reduceToNat, Int.reduceLT, Int.reduceLE, Int.reduceEq, reduceCtorEq, ↓reduceIte] at g27
          obtain ⟨r30, q28, h⟩ := bnd_some h
          have w29 := hrc x23 a1 r30 q28
          try simp -implicitDefEqProofs only [go_sem, Nat.reduceLT, Nat.reduceAdd, Nat.reduceSub, Nat.reduceMul, Nat.reduceEqDiff, Nat.reduceBEq, Nat.reduceLeDiff, Int.reduceToNat, Int.reduceLT, Int.reduceLE, Int.reduceEq, reduceCtorEq, ↓reduceIte] at w29
          cases h
          simp -implicitDefEqProofs only [go_sem, Nat.reduceLT, Nat.reduceAdd, Nat.reduceSub, Nat.reduceMul, Nat.reduceEqDiff, Nat.reduceBEq, Nat.reduceLeDiff, Int.reduceToNat, Int.reduceLT, Int.reduceLE, Int.reduceEq, reduceCtorEq, ↓reduceIte, X39_1, k39_1, b2, b4, b5, b22, g25, g26, g27, w29]
      · replace h := br_t b5 h
        obtain ⟨x6, q7, h⟩ := bnd_some h
        obtain ⟨g8, g9, g10⟩ := idx_row (encl6T .imm) q7
        try simp -implicitDefEqProofs only [go_sem, Nat.reduceLT, Nat.reduceAdd, Nat.reduceSub, Nat.reduceMul, Nat.reduceEqDiff, Nat.reduceBEq, Nat.reduceLeDiff, Int.reduceToNat, Int.reduceLT, Int.reduceLE, Int.reduceEq, reduceCtorEq, ↓reduceIte] at g9
        try simp -implicitDefEqProofs only [go_sem, Nat.reduceLT, Nat.reduceAdd, Nat.reduceSub, Nat.reduceMul, Nat.reduceEqDiff, Nat.reduceBEq, Nat.reduceLeDiff, Int.reduceToNat, Int.reduceLT, Int.reduceLE, Int.reduceEq, reduceCtorEq, ↓reduceIte] at g10
        obtain ⟨r13, q11, h⟩ := bnd_some h
        have w12 := hrc x6 a1 r13 q11
        try simp -implicitDefEqProofs only [go_sem, Nat.reduceLT, Nat.reduceAdd, Nat.reduceSub, Nat.reduceMul, Nat.reduceEqDiff, Nat.reduceBEq, Nat.reduceLeDiff, Int.reduceToNat, Int.reduceLT, Int.reduceLE, Int.reduceEq, reduceCtorEq, ↓reduceIte] at w12
        obtain ⟨x14, q15, h⟩ := bnd_some h
        obtain ⟨g16, g17, g18⟩ := idx_row (encl6T .imm) q15
        try simp -implicitDefEqProofs only [go_sem, Nat.reduceLT, Nat.reduceAdd, Nat.reduceSub, Nat.reduceMul, Nat.reduceEqDiff, Nat.reduceBEq, Nat.reduceLeDiff, Int.reduceToNat, Int.reduceLT, Int.reduceLE, Int.reduceEq, reduceCtorEq, ↓reduceIte] at g17
        try simp -implicitDefEqProofs only [go_sem, Nat.reduceLT, Nat.reduceAdd, Nat.reduceSub, Nat.reduceMul, Nat.reduceEqDiff, Nat.reduceBEq, Nat.reduceLeDiff, Int.reduceToNat, Int.reduceLT, Int.reduceLE, Int.reduceEq, reduceCtorEq, ↓reduceIte] at g18
        obtain ⟨r21, q19, h⟩ := bnd_some h
        have w20 := hrc x14 a1 r21 q19
        try simp -implicitDefEqProofs only [go_sem, Nat.reduceLT, Nat.reduceAdd, Nat.reduceSub, Nat.reduceMul, Nat.reduceEqDiff, Nat.reduceBEq, Nat.reduceLeDiff, Int.reduceToNat, Int.reduceLT, Int.reduceLE, Int.reduceEq, reduceCtorEq, ↓reduceIte] at w20
        cases h
        simp -implicitDefEqProofs only [go_sem, Nat.reduceLT, Nat.reduceAdd, Nat.reduceSub, Nat.reduceMul, Nat.reduceEqDiff, Nat.reduceBEq, Nat.reduceLeDiff, Int.reduceToNat, Int.reduceLT, Int.reduceLE, Int.reduceEq, reduceCtorEq, ↓reduceIte, X39_1, k39_1, b2, b4, b5, g8, g9, g10, w12, g16, g17, g18, w20]
    · replace h := br_t b4 h
      cases h
      simp -implicitDefEqProofs only [go_sem, Nat.reduceLT, Nat.reduceAdd, Nat.reduceSub, Nat.reduceMul, Nat.reduceEqDiff, Nat.reduceBEq, Nat.reduceLeDiff, Int.reduceToNat, Int.reduceLT, Int.reduceLE, Int.reduceEq, reduceCtorEq, ↓reduceIte, X39_1, k39_1, b2, b4]
  · replace h := br_t b2 h
    try simp -implicitDefEqProofs only [go_sem, Nat.reduceLT, Nat.reduceAdd, Nat.reduceSub, Nat.reduceMul, Nat.reduceEqDiff, Nat.reduceBEq, Nat.reduceLeDiff, Int.reduceToNat, Int.reduceLT, Int.reduceLE, Int.reduceEq, reduceCtorEq, ↓reduceIte, X39_1, k39_1, b2]
    cases b3 : (eqI a0.n_ a1 : Bool)
    · replace h := br_f b3 h
      cases h
      simp -implicitDefEqProofs only [go_sem, Nat.reduceLT, Nat.reduceAdd, Nat.reduceSub, Nat.reduceMul, Nat.reduceEqDiff, Nat.reduceBEq, Nat.reduceLeDiff, Int.reduceToNat, Int.reduceLT, Int.reduceLE, Int.reduceEq, reduceCtorEq, ↓reduceIte, X39_1, k39_1, b2, b3]
    · replace h := br_t b3 h
      cases h
      simp -implicitDefEqProofs only [go_sem, Nat.reduceLT, Nat.reduceAdd, Nat.reduceSub, Nat.reduceMul, Nat.reduceEqDiff, Nat.reduceBEq, Nat.reduceLeDiff, Int.reduceToNat, Int.reduceLT, Int.reduceLE, Int.reduceEq, reduceCtorEq, ↓reduceIte, X39_1, k39_1, b2, b3]
theorem e39r (rc : l6T → Int → Option l6T) (hrc : ∀ (a0 : l6T) (a1 : Int) (r : l6T), rc a0 a1 = some r → evFL T 39 [.agg [.int .i64 a0.kind_, .int .i64 a0.n_, .ts .imm 3 (a0.kids_.map (encl6T .imm))], .int .i64 a1] [] = some (.agg [.int .i64 r.kind_, .int .i64 r.n_, .ts .imm 3 (r.kids_.map (encl6T .imm))], [])) (a0 : l6T) (a1 : Int) (r : l6T) (h : m39r rc a0 a1 = some r) : evFL T 39 [.agg [.int .i64 a0.kind_, .int .i64 a0.n_, .ts .imm 3 (a0.kids_.map (encl6T .imm))], .int .i64 a1] [] = some (.agg [.int .i64 r.kind_, .int .i64 r.n_, .ts .imm 3 (r.kids_.map (encl6T .imm))], []) := by
  unfold m39r at h
  rw [evFL_at fn39 (Nat.le_of_ble_eq_true rfl) rfl (.inr rfl) ⟨rfl, rfl⟩]
  try simp -implicitDefEqProofs only [go_sem, Nat.reduceLT, Nat.reduceAdd, Nat.reduceSub, Nat.reduceMul, Nat.reduceEqDiff, Nat.reduceBEq, Nat.reduceLeDiff, Int.reduceToNat, Int.reduceLT, Int.reduceLE, Int.reduceEq, reduceCtorEq, ↓reduceIte, i39, c39]
  obtain ⟨o, q52, h⟩ := bnd_some h
  rcases o with ⟨⟩ | ⟨v54, v55⟩
  · replace h := selS_l h
    have w53 := e39_1 rc hrc a1 a0 (eqI a0.kind_ 3) (.inl ()) q52
    simp only [X39_1] at w53
    try simp -implicitDefEqProofs only [go_sem, Nat.reduceLT, Nat.reduceAdd, Nat.reduceSub, Nat.reduceMul, Nat.reduceEqDiff, Nat.reduceBEq, Nat.reduceLeDiff, Int.reduceToNat, Int.reduceLT, Int.reduceLE, Int.reduceEq, reduceCtorEq, ↓reduceIte] at w53
    cases h
    simp -implicitDefEqProofs only [go_sem, Nat.reduceLT, Nat.reduceAdd, Nat.reduceSub, Nat.reduceMul, Nat.reduceEqDiff, Nat.reduceBEq, Nat.reduceLeDiff, Int.reduceToNat, Int.reduceLT, Int.reduceLE, Int.reduceEq, reduceCtorEq, ↓reduceIte, i39, c39, w53]
  · replace h := selS_r h
    replace h := sel2_some h
    have w53 := e39_1 rc hrc a1 a0 (eqI a0.kind_ 3) (.inr (v54, v55)) q52
    simp only [X39_1] at w53
    try simp -implicitDefEqProofs only [go_sem, Nat.reduceLT, Nat.reduceAdd, Nat.reduceSub, Nat.reduceMul, Nat.reduceEqDiff, Nat.reduceBEq, Nat.reduceLeDiff, Int.reduceToNat, Int.reduceLT, Int.reduceLE, Int.reduceEq, reduceCtorEq, ↓reduceIte] at w53
    cases h
    simp -implicitDefEqProofs only [go_sem, Nat.reduceLT, Nat.reduceAdd, Nat.reduceSub, Nat.reduceMul, Nat.reduceEqDiff, Nat.reduceBEq, Nat.reduceLeDiff, Int.reduceToNat, Int.reduceLT, Int.reduceLE, Int.reduceEq, reduceCtorEq, ↓reduceIte, i39, c39, w53]
theorem e39k : ∀ (k : Nat) (a0 : l6T) (a1 : Int) (r : l6T) (h : m39k k a0 a1 = some r), evFL T 39 [.agg [.int .i64 a0.kind_, .int .i64 a0.n_, .ts .imm 3 (a0.kids_.map (encl6T .imm))], .int .i64 a1] [] = some (.agg [.int .i64 r.kind_, .int .i64 r.n_, .ts .imm 3 (r.kids_.map (encl6T .imm))], []) := by
  intro k
  induction k with
  | zero => intro a0 a1 r h; cases h
  | succ k ih => intro a0 a1 r h; exact e39r (m39k k) (fun a0 a1 r h => ih a0 a1 r h) a0 a1 r h
theorem e39 (a0 : l6T) (a1 : Int) (r : l6T) (h : m39 a0 a1 = some r) : evFL T 39 [.agg [.int .i64 a0.kind_, .int .i64 a0.n_, .ts .imm 3 (a0.kids_.map (encl6T .imm))], .int .i64 a1] [] = some (.agg [.int .i64 r.kind_, .int .i64 r.n_, .ts .imm 3 (r.kids_.map (encl6T .imm))], []) := by
  obtain ⟨N, hN⟩ := limO_iff.1 h
  exact e39k N a0 a1 r (hN N (Nat.le_refl N))
-- f80 spec.l6Same
theorem call80 (args : List AV) (S : St) : evCall T (evFL T) 80 args S = lendC (evFL T 80) S (lendAll S [[0, 0, 3], [0, 0, 3]] args) := evCall0 fn80 rfl rfl rfl args S
theorem callz80 (args : List AV) (S : St) : evCallFz T (evFL T) 80 args S = lendZ (evFL T 80) S [[0]] (lendAll S [[0, 0, 3], [0, 0, 3]] args) := evCallFz0 fn80 rfl rfl rfl args S
attribute [go_sem] call80 callz80
noncomputable def X80_1 (a0 : l6T) (a1 : l6T) (o : Bool) : Ex × Fr × St :=
  (.normal, frOf 37 (upd (upd (upd anyF 2 (.ptr 0 0 0)) 3 (.ptr 1 0 0)) 17 (.bool o)), [some ⟨.box, 3, [[.int .i64 a0.kind_, .int .i64 a0.n_, .ts .imm 3 (a0.kids_.map (encl6T .imm))]]⟩, some ⟨.box, 3, [[.int .i64 a1.kind_, .int .i64 a1.n_, .ts .imm 3 (a1.kids_.map (encl6T .imm))]]⟩])
theorem e80_1 (rc : l6T → l6T → Option Bool) (hrc : ∀ (a0 : l6T) (a1 : l6T) (r : Bool), rc a0 a1 = some r → evFL T 80 [.agg [.int .i64 a0.kind_, .int .i64 a0.n_, .ts .imm 3 (a0.kids_.map (encl6T .imm))], .agg [.int .i64 a1.kind_, .int .i64 a1.n_, .ts .imm 3 (a1.kids_.map (encl6T .imm))]] [] = some (.bool r, [])) (a0 : l6T) (a1 : l6T) (o : Bool) (h : m80_1 rc a0 a1 = some o) : evCL T 0 k80_1 (frOf 37 (upd (upd anyF 2 (.ptr 0 0 0)) 3 (.ptr 1 0 0))) [some ⟨.box, 3, [[.int .i64 a0.kind_, .int .i64 a0.n_, .ts .imm 3 (a0.kids_.map (encl6T .imm))]]⟩, some ⟨.box, 3, [[.int .i64 a1.kind_, .int .i64 a1.n_, .ts .imm 3 (a1.kids_.map (encl6T .imm))]]⟩] = some (X80_1 a0 a1 o) := by
  unfold m80_1 at h
  try simp -implicitDefEqProofs only [go_sem, Nat.reduceLT, Nat.reduceAdd, Nat.reduceSub, Nat.reduceMul, Nat.reduceEqDiff, Nat.reduceBEq, Nat.reduceLeDiff, Int.reduceToNat, Int.reduceLT, Int.reduceLE, Int.reduceEq, reduceCtorEq, ↓reduceIte, X80_1, k80_1]
  cases b1 : (eqI a0.kind_ a1.kind_ : Bool)
  · replace h := br_f b1 h
    cases h
    simp -implicitDefEqProofs only [go_sem, Nat.reduceLT, Nat.reduceAdd, Nat.reduceSub, Nat.reduceMul, Nat.reduceEqDiff, Nat.reduceBEq, Nat.reduceLeDiff, Int.reduceToNat, Int.reduceLT, Int.reduceLE, Int.reduceEq, reduceCtorEq, ↓reduceIte, X80_1, k80_1, b1]
  · replace h := br_t b1 h
    cases h
    simp -implicitDefEqProofs only [go_sem, Nat.reduceLT, Nat.reduceAdd, Nat.reduceSub, Nat.reduceMul, Nat.reduceEqDiff, Nat.reduceBEq, Nat.reduceLeDiff, Int.reduceToNat, Int.reduceLT, Int.reduceLE, Int.reduceEq, reduceCtorEq, ↓reduceIte, X80_1, k80_1, b1]
noncomputable def X80_2 (p6 : Int) (a0 : l6T) (a1 : l6T) (o : (Unit ⊕ Unit)) : Ex × Fr × St :=
  match o with
  | .inl o => (.exit 0, frOf 37 (anyF), [])
  | .inr o => (.ret, frOf 37 (upd anyF 4 (.bool false)), [])
noncomputable def E80_2 (p6 : Int) (a0 : l6T) (a1 : l6T) (s : Int) : Fr × St := (frOf 37 (upd (upd (upd (upd anyF 2 (.ptr 0 0 0)) 3 (.ptr 1 0 0)) 20 (.int .i64 p6)) 21 (.int .i64 s)), [some ⟨.box, 3, [[.int .i64 a0.kind_, .int .i64 a0.n_, .ts .imm 3 (a0.kids_.map (encl6T .imm))]]⟩, some ⟨.box, 3, [[.int .i64 a1.kind_, .int .i64 a1.n_, .ts .imm 3 (a1.kids_.map (encl6T .imm))]]⟩])
theorem b80_2 (rc : l6T → l6T → Option Bool) (hrc : ∀ (a0 : l6T) (a1 : l6T) (r : Bool), rc a0 a1 = some r → evFL T 80 [.agg [.int .i64 a0.kind_, .int .i64 a0.n_, .ts .imm 3 (a0.kids_.map (encl6T .imm))], .agg [.int .i64 a1.kind_, .int .i64 a1.n_, .ts .imm 3 (a1.kids_.map (encl6T .imm))]] [] = some (.bool r, [])) (p6 : Int) (a0 : l6T) (a1 : l6T) (s : Int) (o : Ctl Int (Unit ⊕ Unit)) (h : m80_2b rc p6 a0 a1 s = some o) : evCL T 0 k80_2b (E80_2 p6 a0 a1 s).1 (E80_2 p6 a0 a1 s).2 = some (ctlX (E80_2 p6 a0 a1) (X80_2 p6 a0 a1) o) := by
  unfold m80_2b at h
  revert h
  generalize s = s22
  intro h
  try simp -implicitDefEqProofs only [go_sem, Nat.reduceLT, Nat.reduceAdd, Nat.reduceSub, Nat.reduceMul, Nat.reduceEqDiff, Nat.reduceBEq, Nat.reduceLeDiff, Int.reduceToNat, Int.reduceLT, Int.reduceLE, Int.reduceEq, reduceCtorEq, ↓reduceIte, E80_2, X80_2, k80_2b]
  cases b23 : (ltI s22 p6 : Bool)
  · replace h := br_f b23 h
    cases h
    simp -implicitDefEqProofs only [go_sem, Nat.reduceLT, Nat.reduceAdd, Nat.reduceSub, Nat.reduceMul, Nat.reduceEqDiff, Nat.reduceBEq, Nat.reduceLeDiff, Int.reduceToNat, Int.reduceLT, Int.reduceLE, Int.reduceEq, reduceCtorEq, ↓reduceIte, E80_2, X80_2, k80_2b, b23]
  · replace h := br_t b23 h
    obtain ⟨x24, q25, h⟩ := bnd_some h
    obtain ⟨g26, g27, g28⟩ := idx_row (encl6T .imm) q25
    try simp -implicitDefEqProofs only [go_sem, Nat.reduceLT, Nat.reduceAdd, Nat.reduceSub, Nat.reduceMul, Nat.reduceEqDiff, Nat.reduceBEq, Nat.reduceLeDiff, Int.reduceToNat, Int.reduceLT, Int.reduceLE, Int.reduceEq, reduceCtorEq, ↓reduceIte] at g27
    try simp -implicitDefEqProofs only [go_sem, Nat.reduceLT, Nat.reduceAdd, Nat.reduceSub, Nat.reduceMul, Nat.reduceEqDiff, Nat.reduceBEq, Nat.reduceLeDiff, Int.reduceToNat, Int.reduceLT, Int.reduceLE, Int.reduceEq, reduceCtorEq, ↓reduceIte] at g28
    obtain ⟨x29, q30, h⟩ := bnd_some h
    obtain ⟨g31, g32, g33⟩ := idx_row (encl6T .imm) q30
    try simp -implicitDefEqProofs only [go_sem, Nat.reduceLT, Nat.reduceAdd, Nat.reduceSub, Nat.reduceMul, Nat.reduceEqDiff, Nat.reduceBEq, Nat.reduceLeDiff, Int.reduceToNat, Int.reduceLT, Int.reduceLE, Int.reduceEq, reduceCtorEq, ↓reduceIte] at g32
    try simp -implicitDefEqProofs only [go_sem, Nat.reduceLT, Nat.reduceAdd, Nat.reduceSub, Nat.reduceMul, Nat.reduceEqDiff, Nat.reduceBEq, Nat.reduceLeDiff, Int.reduceToNat, Int.reduceLT, Int.reduceLE, Int.reduceEq, reduceCtorEq, ↓reduceIte] at g33
    obtain ⟨r36, q34, h⟩ := bnd_some h
    have w35 := hrc x24 x29 r36 q34
    try simp -implicitDefEqProofs only [go_sem, Nat.reduceLT, Nat.reduceAdd, Nat.reduceSub, Nat.reduceMul, Nat.reduceEqDiff, Nat.reduceBEq, Nat.reduceLeDiff, Int.reduceToNat, Int.reduceLT, Int.reduceLE, Int.reduceEq, reduceCtorEq, ↓reduceIte] at w35
    try simp -implicitDefEqProofs only [go_sem, Nat.reduceLT, Nat.reduceAdd, Nat.reduceSub, Nat.reduceMul, Nat.reduceEqDiff, Nat.reduceBEq, Nat.reduceLeDiff, Int.reduceToNat, Int.reduceLT, Int.reduceLE, Int.reduceEq, reduceCtorEq, ↓reduceIte, E80_2, X80_2, k80_2b, b23, g26, g27, g28, g31, g32, g33, w35]
    cases b37 : (r36 : Bool)
    · replace h := br_f b37 h
      cases h
      simp -implicitDefEqProofs only [go_sem, Nat.reduceLT, Nat.reduceAdd, Nat.reduceSub, Nat.reduceMul, Nat.reduceEqDiff, Nat.reduceBEq, Nat.reduceLeDiff, Int.reduceToNat, Int.reduceLT, Int.reduceLE, Int.reduceEq, reduceCtorEq, ↓reduceIte, E80_2, X80_2, k80_2b, b23, g26, g27, g28, g31, g32, g33, w35, b37]
    · replace h := br_t b37 h
      cases h
      simp -implicitDefEqProofs only [go_sem, Nat.reduceLT, Nat.reduceAdd, Nat.reduceSub, Nat.reduceMul, Nat.reduceEqDiff, Nat.reduceBEq, Nat.reduceLeDiff, Int.reduceToNat, Int.reduceLT, Int.reduceLE, Int.reduceEq, reduceCtorEq, ↓reduceIte, E80_2, X80_2, k80_2b, b23, g26, g27, g28, g31, g32, g33, w35, b37]
theorem e80_2 (rc : l6T → l6T → Option Bool) (hrc : ∀ (a0 : l6T) (a1 : l6T) (r : Bool), rc a0 a1 = some r → evFL T 80 [.agg [.int .i64 a0.kind_, .int .i64 a0.n_, .ts .imm 3 (a0.kids_.map (encl6T .imm))], .agg [.int .i64 a1.kind_, .int .i64 a1.n_, .ts .imm 3 (a1.kids_.map (encl6T .imm))]] [] = some (.bool r, [])) (p6 : Int) (a0 : l6T) (a1 : l6T) (s : Int) (o : (Unit ⊕ Unit)) (h : loopP (m80_2b rc p6 a0 a1) s = some o) : evCL T 0 (.loop k80_2b) (E80_2 p6 a0 a1 s).1 (E80_2 p6 a0 a1 s).2 = some (X80_2 p6 a0 a1 o) :=
  loop_walk (E := E80_2 p6 a0 a1) (X := X80_2 p6 a0 a1) (by intro b; rcases b with b | b <;> (simp only [X80_2]; nofun)) (b80_2 rc hrc p6 a0 a1) s o h
theorem e80r (rc : l6T → l6T → Option Bool) (hrc : ∀ (a0 : l6T) (a1 : l6T) (r : Bool), rc a0 a1 = some r → evFL T 80 [.agg [.int .i64 a0.kind_, .int .i64 a0.n_, .ts .imm 3 (a0.kids_.map (encl6T .imm))], .agg [.int .i64 a1.kind_, .int .i64 a1.n_, .ts .imm 3 (a1.kids_.map (encl6T .imm))]] [] = some (.bool r, [])) (a0 : l6T) (a1 : l6T) (r : Bool) (h : m80r rc a0 a1 = some r) : evFL T 80 [.agg [.int .i64 a0.kind_, .int .i64 a0.n_, .ts .imm 3 (a0.kids_.map (encl6T .imm))], .agg [.int .i64 a1.kind_, .int .i64 a1.n_, .ts .imm 3 (a1.kids_.map (encl6T .imm))]] [] = some (.bool r, []) := by
  unfold m80r at h
  rw [evFL_at fn80 (Nat.le_of_ble_eq_true rfl) rfl (.inr rfl) ⟨rfl, rfl⟩]
  obtain ⟨v4, q2, h⟩ := bnd_some h
  have w3 := e80_1 rc hrc a0 a1 v4 q2
  simp only [X80_1] at w3
  try simp -implicitDefEqProofs only [go_sem, Nat.reduceLT, Nat.reduceAdd, Nat.reduceSub, Nat.reduceMul, Nat.reduceEqDiff, Nat.reduceBEq, Nat.reduceLeDiff, Int.reduceToNat, Int.reduceLT, Int.reduceLE, Int.reduceEq, reduceCtorEq, ↓reduceIte] at w3
  try simp -implicitDefEqProofs only [go_sem, Nat.reduceLT, Nat.reduceAdd, Nat.reduceSub, Nat.reduceMul, Nat.reduceEqDiff, Nat.reduceBEq, Nat.reduceLeDiff, Int.reduceToNat, Int.reduceLT, Int.reduceLE, Int.reduceEq, reduceCtorEq, ↓reduceIte, i80, c80, w3]
  cases b5 : (v4 : Bool)
  · replace h := br_f b5 h
    try simp -implicitDefEqProofs only [go_sem, Nat.reduceLT, Nat.reduceAdd, Nat.reduceSub, Nat.reduceMul, Nat.reduceEqDiff, Nat.reduceBEq, Nat.reduceLeDiff, Int.reduceToNat, Int.reduceLT, Int.reduceLE, Int.reduceEq, reduceCtorEq, ↓reduceIte, i80, c80, w3, b5]
    obtain ⟨o, q38, h⟩ := bnd_some h
    rcases o with ⟨⟩ | ⟨⟩
    · replace h := selS_l h
      have w39 := e80_2 rc hrc (↑a0.kids_.length : Int) a0 a1 0 (.inl ()) q38
      simp only [E80_2, X80_2] at w39
      try simp -implicitDefEqProofs only [go_sem, Nat.reduceLT, Nat.reduceAdd, Nat.reduceSub, Nat.reduceMul, Nat.reduceEqDiff, Nat.reduceBEq, Nat.reduceLeDiff, Int.reduceToNat, Int.reduceLT, Int.reduceLE, Int.reduceEq, reduceCtorEq, ↓reduceIte] at w39
      cases h
      simp -implicitDefEqProofs only [go_sem, Nat.reduceLT, Nat.reduceAdd, Nat.reduceSub, Nat.reduceMul, Nat.reduceEqDiff, Nat.reduceBEq, Nat.reduceLeDiff, Int.reduceToNat, Int.reduceLT, Int.reduceLE, Int.reduceEq, reduceCtorEq, ↓reduceIte, i80, c80, w3, b5, w39]
    · replace h := selS_r h
      have w39 := e80_2 rc hrc (↑a0.kids_.length : Int) a0 a1 0 (.inr ()) q38
      simp only [E80_2, X80_2] at w39
      try simp -implicitDefEqProofs only [go_sem, Nat.reduceLT, Nat.reduceAdd, Nat.reduceSub, Nat.reduceMul, Nat.reduceEqDiff, Nat.reduceBEq, Nat.reduceLeDiff, Int.reduceToNat, Int.reduceLT, Int.reduceLE, Int.reduceEq, reduceCtorEq, ↓reduceIte] at w39
      cases h
      simp -implicitDefEqProofs only [go_sem, Nat.reduceLT, Nat.reduceAdd, Nat.reduceSub, Nat.reduceMul, Nat.reduceEqDiff, Nat.reduceBEq, Nat.reduceLeDiff, Int.reduceToNat, Int.reduceLT, Int.reduceLE, Int.reduceEq, reduceCtorEq, ↓reduceIte, i80, c80, w3, b5, w39]
  · replace h := br_t b5 h
    cases h
    simp -implicitDefEqProofs only [go_sem, Nat.reduceLT, Nat.reduceAdd, Nat.reduceSub, Nat.reduceMul, Nat.reduceEqDiff, Nat.reduceBEq, Nat.reduceLeDiff, Int.reduceToNat, Int.reduceLT, Int.reduceLE, Int.reduceEq, reduceCtorEq, ↓reduceIte, i80, c80, w3, b5]
theorem e80k : ∀ (k : Nat) (a0 : l6T) (a1 : l6T) (r : Bool) (h : m80k k a0 a1 = some r), evFL T 80 [.agg [.int .i64 a0.kind_, .int .i64 a0.n_, .ts .imm 3 (a0.kids_.map (encl6T .imm))], .agg [.int .i64 a1.kind_, .int .i64 a1.n_, .ts .imm 3 (a1.kids_.map (encl6T .imm))]] [] = some (.bool r, []) := by
  intro k
  induction k with
  | zero => intro a0 a1 r h; cases h
  | succ k ih => intro a0 a1 r h; exact e80r (m80k k) (fun a0 a1 r h => ih a0 a1 r h) a0 a1 r h
theorem e80 (a0 : l6T) (a1 : l6T) (r : Bool) (h : m80 a0 a1 = some r) : evFL T 80 [.agg [.int .i64 a0.kind_, .int .i64 a0.n_, .ts .imm 3 (a0.kids_.map (encl6T .imm))], .agg [.int .i64 a1.kind_, .int .i64 a1.n_, .ts .imm 3 (a1.kids_.map (encl6T .imm))]] [] = some (.bool r, []) := by
  obtain ⟨N, hN⟩ := limO_iff.1 h
  exact e80k N a0 a1 r (hN N (Nat.le_refl N))
-- f65 spec.l6Make
theorem call65 (args : List AV) (S : St) : evCall T (evFL T) 65 args S = treeC false (evFL T 65) S args (lendAll S [[0], [0], [3]] args) := evCallT fn65 rfl rfl rfl args S
attribute [go_sem] call65
noncomputable def X65_2 (a0 : Int) (a1 : Int) (a2 : (List l6T)) (x3 : l6T) (x8 : l6T) (o : Bool) : Ex × Fr × St :=
  (.normal, frOf 82 (upd (upd (upd (upd (upd (upd (upd anyF 0 (.int .i64 a0)) 1 (.int .i64 a1)) 2 (.ts .imm 3 (a2.map (encl6T .imm)))) 6 (.ptr 0 0 0)) 7 (.ptr 2 0 0)) 8 (.ptr 3 0 0)) 20 (.bool o)), [some ⟨.box, 3, [[.int .i64 0, .int .i64 0, .sl 1 0 0]]⟩, some ⟨.arr, 3, []⟩, some ⟨.box, 3, [[.int .i64 x3.kind_, .int .i64 x3.n_, .ts .imm 3 (x3.kids_.map (encl6T .imm))]]⟩, some ⟨.box, 3, [[.int .i64 x8.kind_, .int .i64 x8.n_, .ts .imm 3 (x8.kids_.map (encl6T .imm))]]⟩])
theorem e65_2 (a0 : Int) (a1 : Int) (a2 : (List l6T)) (x3 : l6T) (x8 : l6T) (o : Bool) (h : m65_2 x3 x8 = some o) : evCL T 0 k65_2 (frOf 82 (upd (upd (upd (upd (upd (upd anyF 0 (.int .i64 a0)) 1 (.int .i64 a1)) 2 (.ts .imm 3 (a2.map (encl6T .imm)))) 6 (.ptr 0 0 0)) 7 (.ptr 2 0 0)) 8 (.ptr 3 0 0))) [some ⟨.box, 3, [[.int .i64 0, .int .i64 0, .sl 1 0 0]]⟩, some ⟨.arr, 3, []⟩, some ⟨.box, 3, [[.int .i64 x3.kind_, .int .i64 x3.n_, .ts .imm 3 (x3.kids_.map (encl6T .imm))]]⟩, some ⟨.box, 3, [[.int .i64 x8.kind_, .int .i64 x8.n_, .ts .imm 3 (x8.kids_.map (encl6T .imm))]]⟩] = some (X65_2 a0 a1 a2 x3 x8 o) := by
  unfold m65_2 at h
  try simp -implicitDefEqProofs only [go_sem, Nat.reduceLT, Nat.reduceAdd, Nat.reduceSub, Nat.reduceMul, Nat.reduceEqDiff, Nat.reduceBEq, Nat.reduceLeDiff, Int.reduceToNat, Int.reduceLT, Int.reduceLE, Int.reduceEq, reduceCtorEq, ↓reduceIte, X65_2, k65_2]
  cases b13 : (eqI x3.kind_ 1 : Bool)
  · replace h := br_f b13 h
    cases h
    simp -implicitDefEqProofs only [go_sem, Nat.reduceLT, Nat.reduceAdd, Nat.reduceSub, Nat.reduceMul, Nat.reduceEqDiff, Nat.reduceBEq, Nat.reduceLeDiff, Int.reduceToNat, Int.reduceLT, Int.reduceLE, Int.reduceEq, reduceCtorEq, ↓reduceIte, X65_2, k65_2, b13]
  · replace h := br_t b13 h
    cases h
    simp -implicitDefEqProofs only [go_sem, Nat.reduceLT, Nat.reduceAdd, Nat.reduceSub, Nat.reduceMul, Nat.reduceEqDiff, Nat.reduceBEq, Nat.reduceLeDiff, Int.reduceToNat, Int.reduceLT, Int.reduceLE, Int.reduceEq, reduceCtorEq, ↓reduceIte, X65_2, k65_2, b13]
noncomputable def X65_4 (a0 : Int) (a1 : Int) (a2 : (List l6T)) (x22 : l6T) (x27 : l6T) (o : Bool) : Ex × Fr × St :=
  (.normal, frOf 82 (upd (upd (upd (upd (upd (upd anyF 0 (.int .i64 a0)) 1 (.int .i64 a1)) 2 (.ts .imm 3 (a2.map (encl6T .imm)))) 6 (.ptr 0 0 0)) 9 (.ptr 2 0 0)) 53 (.bool o)), [some ⟨.box, 3, [[.int .i64 0, .int .i64 0, .sl 1 0 0]]⟩, some ⟨.arr, 3, []⟩, some ⟨.box, 3, [[.int .i64 x22.kind_, .int .i64 x22.n_, .ts .imm 3 (x22.kids_.map (encl6T .imm))]]⟩])
theorem e65_4 (a0 : Int) (a1 : Int) (a2 : (List l6T)) (x22 : l6T) (x27 : l6T) (o : Bool) (h : m65_4 x22 x27 = some o) : evCL T 0 k65_4 (frOf 82 (upd (upd (upd (upd (upd (upd anyF 0 (.int .i64 a0)) 1 (.int .i64 a1)) 2 (.ts .imm 3 (a2.map (encl6T .imm)))) 6 (.ptr 0 0 0)) 9 (.ptr 2 0 0)) 10 (.ptr 3 0 0))) [some ⟨.box, 3, [[.int .i64 0, .int .i64 0, .sl 1 0 0]]⟩, some ⟨.arr, 3, []⟩, some ⟨.box, 3, [[.int .i64 x22.kind_, .int .i64 x22.n_, .ts .imm 3 (x22.kids_.map (encl6T .imm))]]⟩, some ⟨.box, 3, [[.int .i64 x27.kind_, .int .i64 x27.n_, .ts .imm 3 (x27.kids_.map (encl6T .imm))]]⟩] = some (X65_4 a0 a1 a2 x22 x27 o) := by
  unfold m65_4 at h
  try simp -implicitDefEqProofs only [go_sem, Nat.reduceLT, Nat.reduceAdd, Nat.reduceSub, Nat.reduceMul, Nat.reduceEqDiff, Nat.reduceBEq, Nat.reduceLeDiff, Int.reduceToNat, Int.reduceLT, Int.reduceLE, Int.reduceEq, reduceCtorEq, ↓reduceIte, X65_4, k65_4]
  cases b33 : (eqI x27.kind_ 1 : Bool)
  · replace h := br_f b33 h
    obtain ⟨r36, q34, h⟩ := bnd_some h
    have w35 := e80 x22 x27 r36 q34
    try simp -implicitDefEqProofs only [go_sem, Nat.reduceLT, Nat.reduceAdd, Nat.reduceSub, Nat.reduceMul, Nat.reduceEqDiff, Nat.reduceBEq, Nat.reduceLeDiff, Int.reduceToNat, Int.reduceLT, Int.reduceLE, Int.reduceEq, reduceCtorEq, ↓reduceIte] at w35
    cases h
    simp -implicitDefEqProofs only [go_sem, Nat.reduceLT, Nat.reduceAdd, Nat.reduceSub, Nat.reduceMul, Nat.reduceEqDiff, Nat.reduceBEq, Nat.reduceLeDiff, Int.reduceToNat, Int.reduceLT, Int.reduceLE, Int.reduceEq, reduceCtorEq, ↓reduceIte, X65_4, k65_4, b33, w35]
  · replace h := br_t b33 h
    cases h
    simp -implicitDefEqProofs only [go_sem, Nat.reduceLT, Nat.reduceAdd, Nat.reduceSub, Nat.reduceMul, Nat.reduceEqDiff, Nat.reduceBEq, Nat.reduceLeDiff, Int.reduceToNat, Int.reduceLT, Int.reduceLE, Int.reduceEq, reduceCtorEq, ↓reduceIte, X65_4, k65_4, b33]
noncomputable def X65_6 (a0 : Int) (a1 : Int) (a2 : (List l6T)) (x43 : l6T) (p48 : Bool) (o : Bool) : Ex × Fr × St :=
  (.normal, frOf 82 (upd (upd (upd (upd (upd (upd anyF 0 (.int .i64 a0)) 1 (.int .i64 a1)) 2 (.ts .imm 3 (a2.map (encl6T .imm)))) 6 (.ptr 0 0 0)) 68 (.int .i64 x43.kind_)) 69 (.bool o)), [some ⟨.box, 3, [[.int .i64 0, .int .i64 0, .sl 1 0 0]]⟩, some ⟨.arr, 3, []⟩])
theorem e65_6 (a0 : Int) (a1 : Int) (a2 : (List l6T)) (x43 : l6T) (p48 : Bool) (o : Bool) (h : m65_6 x43 p48 = some o) : evCL T 0 k65_6 (frOf 82 (upd (upd (upd (upd (upd (upd anyF 0 (.int .i64 a0)) 1 (.int .i64 a1)) 2 (.ts .imm 3 (a2.map (encl6T .imm)))) 6 (.ptr 0 0 0)) 68 (.int .i64 x43.kind_)) 69 (.bool p48))) [some ⟨.box, 3, [[.int .i64 0, .int .i64 0, .sl 1 0 0]]⟩, some ⟨.arr, 3, []⟩] = some (X65_6 a0 a1 a2 x43 p48 o) := by
  unfold m65_6 at h
  try simp -implicitDefEqProofs only [go_sem, Nat.reduceLT, Nat.reduceAdd, Nat.reduceSub, Nat.reduceMul, Nat.reduceEqDiff, Nat.reduceBEq, Nat.reduceLeDiff, Int.reduceToNat, Int.reduceLT, Int.reduceLE, Int.reduceEq, reduceCtorEq, ↓reduceIte, X65_6, k65_6]
  cases b49 : (p48 : Bool)
  · replace h := br_f b49 h
    cases h
    simp -implicitDefEqProofs only [go_sem, Nat.reduceLT, Nat.reduceAdd, Nat.reduceSub, Nat.reduceMul, Nat.reduceEqDiff, Nat.reduceBEq, Nat.reduceLeDiff, Int.reduceToNat, Int.reduceLT, Int.reduceLE, Int.reduceEq, reduceCtorEq, ↓reduceIte, X65_6, k65_6, b49]
  · replace h := br_t b49 h
    cases h
    simp -implicitDefEqProofs only [go_sem, Nat.reduceLT, Nat.reduceAdd, Nat.reduceSub, Nat.reduceMul, Nat.reduceEqDiff, Nat.reduceBEq, Nat.reduceLeDiff, Int.reduceToNat, Int.reduceLT, Int.reduceLE, Int.reduceEq, reduceCtorEq, ↓reduceIte, X65_6, k65_6, b49]
noncomputable def X65_5 (a0 : Int) (a1 : Int) (a2 : (List l6T)) (p41 : Bool) (o : (Unit ⊕ (Int × Int × List l6T))) : Ex × Fr × St :=
  match o with
  | .inl o => (.normal, frOf 82 (upd (upd (upd (upd anyF 0 (.int .i64 a0)) 1 (.int .i64 a1)) 2 (.ts .imm 3 (a2.map (encl6T .imm)))) 6 (.ptr 0 0 0)), [some ⟨.box, 3, [[.int .i64 0, .int .i64 0, .sl 1 0 0]]⟩, some ⟨.arr, 3, []⟩])
  | .inr o => (.ret, frOf 82 (upd anyF 6 (.ptr 0 0 0)), [some ⟨.box, 3, [[.int .i64 o.1, .int .i64 o.2.1, .ts .imm 3 (o.2.2.map (encl6T .imm))]]⟩])
theorem e65_5 (a0 : Int) (a1 : Int) (a2 : (List l6T)) (p41 : Bool) (o : (Unit ⊕ (Int × Int × List l6T))) (h : m65_5 a2 p41 = some o) : evCL T 0 k65_5 (frOf 82 (upd (upd (upd (upd (upd anyF 0 (.int .i64 a0)) 1 (.int .i64 a1)) 2 (.ts .imm 3 (a2.map (encl6T .imm)))) 6 (.ptr 0 0 0)) 63 (.bool p41))) [some ⟨.box, 3, [[.int .i64 0, .int .i64 0, .sl 1 0 0]]⟩, some ⟨.arr, 3, []⟩] = some (X65_5 a0 a1 a2 p41 o) := by
  unfold m65_5 at h
  try simp -implicitDefEqProofs only [go_sem, Nat.reduceLT, Nat.reduceAdd, Nat.reduceSub, Nat.reduceMul, Nat.reduceEqDiff, Nat.reduceBEq, Nat.reduceLeDiff, Int.reduceToNat, Int.reduceLT, Int.reduceLE, Int.reduceEq, reduceCtorEq, ↓reduceIte, X65_5, k65_5]
  cases b42 : (p41 : Bool)
  · replace h := br_f b42 h
    cases h
    simp -implicitDefEqProofs only [go_sem, Nat.reduceLT, Nat.reduceAdd, Nat.reduceSub, Nat.reduceMul, Nat.reduceEqDiff, Nat.reduceBEq, Nat.reduceLeDiff, Int.reduceToNat, Int.reduceLT, Int.reduceLE, Int.reduceEq, reduceCtorEq, ↓reduceIte, X65_5, k65_5, b42]
  · replace h := br_t b42 h
    obtain ⟨x43, q44, h⟩ := bnd_some h
    obtain ⟨g45, g46, g47⟩ := idx_row (encl6T .imm) q44
    try simp -implicitDefEqProofs only [go_sem, Nat.reduceLT, Nat.reduceAdd, Nat.reduceSub, Nat.reduceMul, Nat.reduceEqDiff, Nat.reduceBEq, Nat.reduceLeDiff, Int.reduceToNat, Int.reduceLT, Int.reduceLE, Int.reduceEq, reduceCtorEq, ↓reduceIte] at g46
    try simp -implicitDefEqProofs only [go_sem, Nat.reduceLT, Nat.reduceAdd, Nat.reduceSub, Nat.reduceMul, Nat.reduceEqDiff, Nat.reduceBEq, Nat.reduceLeDiff, Int.reduceToNat, Int.reduceLT, Int.reduceLE, Int.reduceEq, reduceCtorEq, ↓reduceIte] at g47
    obtain ⟨v52, q50, h⟩ := bnd_some h
    have w51 := e65_6 a0 a1 a2 x43 (eqI x43.kind_ 1) v52 q50
    simp only [X65_6] at w51
    try simp -implicitDefEqProofs only [go_sem, Nat.reduceLT, Nat.reduceAdd, Nat.reduceSub, Nat.reduceMul, Nat.reduceEqDiff, Nat.reduceBEq, Nat.reduceLeDiff, Int.reduceToNat, Int.reduceLT, Int.reduceLE, Int.reduceEq, reduceCtorEq, ↓reduceIte] at w51
    try simp -implicitDefEqProofs only [go_sem, Nat.reduceLT, Nat.reduceAdd, Nat.reduceSub, Nat.reduceMul, Nat.reduceEqDiff, Nat.reduceBEq, Nat.reduceLeDiff, Int.reduceToNat, Int.reduceLT, Int.reduceLE, Int.reduceEq, reduceCtorEq, ↓reduceIte, X65_5, k65_5, b42, g45, g46, g47, w51]
    cases b53 : (v52 : Bool)
    · replace h := br_f b53 h
      try simp -implicitDefEqProofs only [go_sem, Nat.reduceLT, Nat.reduceAdd, Nat.reduceSub, Nat.reduceMul, Nat.reduceEqDiff, Nat.reduceBEq, Nat.reduceLeDiff, Int.reduceToNat, Int.reduceLT, Int.reduceLE, Int.reduceEq, reduceCtorEq, ↓reduceIte, X65_5, k65_5, b42, g45, g46, g47, w51, b53]
      cases b54 : (eqI x43.kind_ 7 : Bool)
      · replace h := br_f b54 h
        cases h
        simp -implicitDefEqProofs only [go_sem, Nat.reduceLT, Nat.reduceAdd, Nat.reduceSub, Nat.reduceMul, Nat.reduceEqDiff, Nat.reduceBEq, Nat.reduceLeDiff, Int.reduceToNat, Int.reduceLT, Int.reduceLE, Int.reduceEq, reduceCtorEq, ↓reduceIte, X65_5, k65_5, b42, g45, g46, g47, w51, b53, b54]
      · replace h := br_t b54 h
        cases h
        simp -implicitDefEqProofs only [go_sem, Nat.reduceLT, Nat.reduceAdd, Nat.reduceSub, Nat.reduceMul, Nat.reduceEqDiff, Nat.reduceBEq, Nat.reduceLeDiff, Int.reduceToNat, Int.reduceLT, Int.reduceLE, Int.reduceEq, reduceCtorEq, ↓reduceIte, X65_5, k65_5, b42, g45, g46, g47, w51, b53, b54]
    · replace h := br_t b53 h
      cases h
      simp -implicitDefEqProofs only [go_sem, Nat.reduceLT, Nat.reduceAdd, Nat.reduceSub, Nat.reduceMul, Nat.reduceEqDiff, Nat.reduceBEq, Nat.reduceLeDiff, Int.reduceToNat, Int.reduceLT, Int.reduceLE, Int.reduceEq, reduceCtorEq, ↓reduceIte, X65_5, k65_5, b42, g45, g46, g47, w51, b53]
noncomputable def X65_3 (a0 : Int) (a1 : Int) (a2 : (List l6T)) (p20 : Bool) (o : (Unit ⊕ (Int × Int × List l6T))) : Ex × Fr × St :=
  match o with
  | .inl o => (.normal, frOf 82 (upd (upd (upd (upd anyF 0 (.int .i64 a0)) 1 (.int .i64 a1)) 2 (.ts .imm 3 (a2.map (encl6T .imm)))) 6 (.ptr 0 0 0)), [some ⟨.box, 3, [[.int .i64 0, .int .i64 0, .sl 1 0 0]]⟩, some ⟨.arr, 3, []⟩])
  | .inr o => (.ret, frOf 82 (upd anyF 6 (.ptr 0 0 0)), [some ⟨.box, 3, [[.int .i64 o.1, .int .i64 o.2.1, .ts .imm 3 (o.2.2.map (encl6T .imm))]]⟩])
theorem e65_3 (a0 : Int) (a1 : Int) (a2 : (List l6T)) (p20 : Bool) (o : (Unit ⊕ (Int × Int × List l6T))) (h : m65_3 a0 a2 p20 = some o) : evCL T 0 k65_3 (frOf 82 (upd (upd (upd (upd (upd (upd anyF 0 (.int .i64 a0)) 1 (.int .i64 a1)) 2 (.ts .imm 3 (a2.map (encl6T .imm)))) 6 (.ptr 0 0 0)) 11 (.int .i64 a0)) 40 (.bool p20))) [some ⟨.box, 3, [[.int .i64 0, .int .i64 0, .sl 1 0 0]]⟩, some ⟨.arr, 3, []⟩] = some (X65_3 a0 a1 a2 p20 o) := by
  unfold m65_3 at h
  try simp -implicitDefEqProofs only [go_sem, Nat.reduceLT, Nat.reduceAdd, Nat.reduceSub, Nat.reduceMul, Nat.reduceEqDiff, Nat.reduceBEq, Nat.reduceLeDiff, Int.reduceToNat, Int.reduceLT, Int.reduceLE, Int.reduceEq, reduceCtorEq, ↓reduceIte, X65_3, k65_3]
  cases b21 : (p20 : Bool)
  · replace h := br_f b21 h
    try simp -implicitDefEqProofs only [go_sem, Nat.reduceLT, Nat.reduceAdd, Nat.reduceSub, Nat.reduceMul, Nat.reduceEqDiff, Nat.reduceBEq, Nat.reduceLeDiff, Int.reduceToNat, Int.reduceLT, Int.reduceLE, Int.reduceEq, reduceCtorEq, ↓reduceIte, X65_3, k65_3, b21]
    obtain ⟨o, q55, h⟩ := bnd_some h
    rcases o with ⟨⟩ | ⟨v57, v58, v59⟩
    · replace h := selS_l h
      have w56 := e65_5 a0 a1 a2 (eqI a0 7) (.inl ()) q55
      simp only [X65_5] at w56
      try simp -implicitDefEqProofs only [go_sem, Nat.reduceLT, Nat.reduceAdd, Nat.reduceSub, Nat.reduceMul, Nat.reduceEqDiff, Nat.reduceBEq, Nat.reduceLeDiff, Int.reduceToNat, Int.reduceLT, Int.reduceLE, Int.reduceEq, reduceCtorEq, ↓reduceIte] at w56
      cases h
      simp -implicitDefEqProofs only [go_sem, Nat.reduceLT, Nat.reduceAdd, Nat.reduceSub, Nat.reduceMul, Nat.reduceEqDiff, Nat.reduceBEq, Nat.reduceLeDiff, Int.reduceToNat, Int.reduceLT, Int.reduceLE, Int.reduceEq, reduceCtorEq, ↓reduceIte, X65_3, k65_3, b21, w56]
    · replace h := selS_r h
      replace h := sel3_some h
      have w56 := e65_5 a0 a1 a2 (eqI a0 7) (.inr (v57, v58, v59)) q55
      simp only [X65_5] at w56
      try simp -implicitDefEqProofs only [go_sem, Nat.reduceLT, Nat.reduceAdd, Nat.reduceSub, Nat.reduceMul, Nat.reduceEqDiff, Nat.reduceBEq, Nat.reduceLeDiff, Int.reduceToNat, Int.reduceLT, Int.reduceLE, Int.reduceEq, reduceCtorEq, ↓reduceIte] at w56
      cases h
      simp -implicitDefEqProofs only [go_sem, Nat.reduceLT, Nat.reduceAdd, Nat.reduceSub, Nat.reduceMul, Nat.reduceEqDiff, Nat.reduceBEq, Nat.reduceLeDiff, Int.reduceToNat, Int.reduceLT, Int.reduceLE, Int.reduceEq, reduceCtorEq, ↓reduceIte, X65_3, k65_3, b21, w56]
  · replace h := br_t b21 h
    obtain ⟨x22, q23, h⟩ := bnd_some h
    obtain ⟨g24, g25, g26⟩ := idx_row (encl6T .imm) q23
    try simp -implicitDefEqProofs only [go_sem, Nat.reduceLT, Nat.reduceAdd, Nat.reduceSub, Nat.reduceMul, Nat.reduceEqDiff, Nat.reduceBEq, Nat.reduceLeDiff, Int.reduceToNat, Int.reduceLT, Int.reduceLE, Int.reduceEq, reduceCtorEq, ↓reduceIte] at g25
    try simp -implicitDefEqProofs only [go_sem, Nat.reduceLT, Nat.reduceAdd, Nat.reduceSub, Nat.reduceMul, Nat.reduceEqDiff, Nat.reduceBEq, Nat.reduceLeDiff, Int.reduceToNat, Int.reduceLT, Int.reduceLE, Int.reduceEq, reduceCtorEq, ↓reduceIte] at g26
    obtain ⟨x27, q28, h⟩ := bnd_some h
    obtain ⟨g29, g30, g31⟩ := idx_row (encl6T .imm) q28
    try simp -implicitDefEqProofs only [go_sem, Nat.reduceLT, Nat.reduceAdd, Nat.reduceSub, Nat.reduceMul, Nat.reduceEqDiff, Nat.reduceBEq, Nat.reduceLeDiff, Int.reduceToNat, Int.reduceLT, Int.reduceLE, Int.reduceEq, reduceCtorEq, ↓reduceIte] at g30
    try simp -implicitDefEqProofs only [go_sem, Nat.reduceLT, Nat.reduceAdd, Nat.reduceSub, Nat.reduceMul, Nat.reduceEqDiff, Nat.reduceBEq, Nat.reduceLeDiff, Int.reduceToNat, Int.reduceLT, Int.reduceLE, Int.reduceEq, reduceCtorEq, ↓reduceIte] at g31
    try simp -implicitDefEqProofs only [go_sem, Nat.reduceLT, Nat.reduceAdd, Nat.reduceSub, Nat.reduceMul, Nat.reduceEqDiff, Nat.reduceBEq, Nat.reduceLeDiff, Int.reduceToNat, Int.reduceLT, Int.reduceLE, Int.reduceEq, reduceCtorEq, ↓reduceIte, X65_3, k65_3, b21, g24, g25, g26, g29, g30, g31]
    cases b32 : (eqI x22.kind_ 1 : Bool)
    · replace h := br_f b32 h
      obtain ⟨v39, q37, h⟩ := bnd_some h
      have w38 := e65_4 a0 a1 a2 x22 x27 v39 q37
      simp only [X65_4] at w38
      try simp -implicitDefEqProofs only [go_sem, Nat.reduceLT, Nat.reduceAdd, Nat.reduceSub, Nat.reduceMul, Nat.reduceEqDiff, Nat.reduceBEq, Nat.reduceLeDiff, Int.reduceToNat, Int.reduceLT, Int.reduceLE, Int.reduceEq, reduceCtorEq, ↓reduceIte] at w38
      try simp -implicitDefEqProofs only [go_sem, Nat.reduceLT, Nat.reduceAdd, Nat.reduceSub, Nat.reduceMul, Nat.reduceEqDiff, Nat.reduceBEq, Nat.reduceLeDiff, Int.reduceToNat, Int.reduceLT, Int.reduceLE, Int.reduceEq, reduceCtorEq, ↓reduceIte, X65_3, k65_3, b21, g24, g25, g26, g29, g30, g31, b32, w38]
      cases b40 : (v39 : Bool)
      · replace h := br_f b40 h
        cases h
        simp -implicitDefEqProofs only [go_sem, Nat.reduceLT, Nat.reduceAdd, Nat.reduceSub, Nat.reduceMul, Nat.reduceEqDiff, Nat.reduceBEq, Nat.reduceLeDiff, Int.reduceToNat, Int.reduceLT, Int.reduceLE, Int.reduceEq, reduceCtorEq, ↓reduceIte, X65_3, k65_3, b21, g24, g25, g26, g29, g30, g31, b32, w38, b40]
      · replace h := br_t b40 h
        cases h
        simp -implicitDefEqProofs only [go_sem, Nat.reduceLT, Nat.reduceAdd, Nat.reduceSub, Nat.reduceMul, Nat.reduceEqDiff, Nat.reduceBEq, Nat.reduceLeDiff, Int.reduceToNat, Int.reduceLT, Int.reduceLE, Int.reduceEq, reduceCtorEq, ↓reduceIte, X65_3, k65_3, b21, g24, g25, g26, g29, g30, g31, b32, w38, b40]
    · replace h := br_t b32 h
      cases h
      simp -implicitDefEqProofs only [go_sem, Nat.reduceLT, Nat.reduceAdd, Nat.reduceSub, Nat.reduceMul, Nat.reduceEqDiff, Nat.reduceBEq, Nat.reduceLeDiff, Int.reduceToNat, Int.reduceLT, Int.reduceLE, Int.reduceEq, reduceCtorEq, ↓reduceIte, X65_3, k65_3, b21, g24, g25, g26, g29, g30, g31, b32]
noncomputable def X65_1 (a0 : Int) (a1 : Int) (a2 : (List l6T)) (p1 : Bool) (o : (Unit ⊕ (Int × Int × List l6T))) : Ex × Fr × St :=
  match o with
  | .inl o => (.normal, frOf 82 (upd (upd (upd (upd anyF 0 (.int .i64 a0)) 1 (.int .i64 a1)) 2 (.ts .imm 3 (a2.map (encl6T .imm)))) 6 (.ptr 0 0 0)), [some ⟨.box, 3, [[.int .i64 0, .int .i64 0, .sl 1 0 0]]⟩, some ⟨.arr, 3, []⟩])
  | .inr o => (.ret, frOf 82 (upd anyF 6 (.ptr 0 0 0)), [some ⟨.box, 3, [[.int .i64 o.1, .int .i64 o.2.1, .ts .imm 3 (o.2.2.map (encl6T .imm))]]⟩])
theorem e65_1 (a0 : Int) (a1 : Int) (a2 : (List l6T)) (p1 : Bool) (o : (Unit ⊕ (Int × Int × List l6T))) (h : m65_1 a0 a2 p1 = some o) : evCL T 0 k65_1 (frOf 82 (upd (upd (upd (upd (upd (upd anyF 0 (.int .i64 a0)) 1 (.int .i64 a1)) 2 (.ts .imm 3 (a2.map (encl6T .imm)))) 6 (.ptr 0 0 0)) 11 (.int .i64 a0)) 12 (.bool p1))) [some ⟨.box, 3, [[.int .i64 0, .int .i64 0, .sl 1 0 0]]⟩, some ⟨.arr, 3, []⟩] = some (X65_1 a0 a1 a2 p1 o) := by
  unfold m65_1 at h
  try simp -implicitDefEqProofs only [go_sem, Nat.reduceLT, Nat.reduceAdd, Nat.reduceSub, Nat.reduceMul, Nat.reduceEqDiff, Nat.reduceBEq, Nat.reduceLeDiff, Int.reduceToNat, Int.reduceLT, Int.reduceLE, Int.reduceEq, reduceCtorEq, ↓reduceIte, X65_1, k65_1]
  cases b2 : (p1 : Bool)
  · replace h := br_f b2 h
    try simp -implicitDefEqProofs only [go_sem, Nat.reduceLT, Nat.reduceAdd, Nat.reduceSub, Nat.reduceMul, Nat.reduceEqDiff, Nat.reduceBEq, Nat.reduceLeDiff, Int.reduceToNat, Int.reduceLT, Int.reduceLE, Int.reduceEq, reduceCtorEq, ↓reduceIte, X65_1, k65_1, b2]
    obtain ⟨o, q60, h⟩ := bnd_some h
    rcases o with ⟨⟩ | ⟨v62, v63, v64⟩
    · replace h := selS_l h
      have w61 := e65_3 a0 a1 a2 (eqI a0 6) (.inl ()) q60
      simp only [X65_3] at w61
      try simp -implicitDefEqProofs only [go_sem, Nat.reduceLT, Nat.reduceAdd, Nat.reduceSub, Nat.reduceMul, Nat.reduceEqDiff, Nat.reduceBEq, Nat.reduceLeDiff, Int.reduceToNat, Int.reduceLT, Int.reduceLE, Int.reduceEq, reduceCtorEq, ↓reduceIte] at w61
      cases h
      simp -implicitDefEqProofs only [go_sem, Nat.reduceLT, Nat.reduceAdd, Nat.reduceSub, Nat.reduceMul, Nat.reduceEqDiff, Nat.reduceBEq, Nat.reduceLeDiff, Int.reduceToNat, Int.reduceLT, Int.reduceLE, Int.reduceEq, reduceCtorEq, ↓reduceIte, X65_1, k65_1, b2, w61]
    · replace h := selS_r h
      replace h := sel3_some h
      have w61 := e65_3 a0 a1 a2 (eqI a0 6) (.inr (v62, v63, v64)) q60
      simp only [X65_3] at w61
      try simp -implicitDefEqProofs only [go_sem, Nat.reduceLT, Nat.reduceAdd, Nat.reduceSub, Nat.reduceMul, Nat.reduceEqDiff, Nat.reduceBEq, Nat.reduceLeDiff, Int.reduceToNat, Int.reduceLT, Int.reduceLE, Int.reduceEq, reduceCtorEq, ↓reduceIte] at w61
      cases h
      simp -implicitDefEqProofs only [go_sem, Nat.reduceLT, Nat.reduceAdd, Nat.reduceSub, Nat.reduceMul, Nat.reduceEqDiff, Nat.reduceBEq, Nat.reduceLeDiff, Int.reduceToNat, Int.reduceLT, Int.reduceLE, Int.reduceEq, reduceCtorEq, ↓reduceIte, X65_1, k65_1, b2, w61]
  · replace h := br_t b2 h
    obtain ⟨x3, q4, h⟩ := bnd_some h
    obtain ⟨g5, g6, g7⟩ := idx_row (encl6T .imm) q4
    try simp -implicitDefEqProofs only [go_sem, Nat.reduceLT, Nat.reduceAdd, Nat.reduceSub, Nat.reduceMul, Nat.reduceEqDiff, Nat.reduceBEq, Nat.reduceLeDiff, Int.reduceToNat, Int.reduceLT, Int.reduceLE, Int.reduceEq, reduceCtorEq, ↓reduceIte] at g6
    try simp -implicitDefEqProofs only [go_sem, Nat.reduceLT, Nat.reduceAdd, Nat.reduceSub, Nat.reduceMul, Nat.reduceEqDiff, Nat.reduceBEq, Nat.reduceLeDiff, Int.reduceToNat, Int.reduceLT, Int.reduceLE, Int.reduceEq, reduceCtorEq, ↓reduceIte] at g7
    obtain ⟨x8, q9, h⟩ := bnd_some h
    obtain ⟨g10, g11, g12⟩ := idx_row (encl6T .imm) q9
    try simp -implicitDefEqProofs only [go_sem, Nat.reduceLT, Nat.reduceAdd, Nat.reduceSub, Nat.reduceMul, Nat.reduceEqDiff, Nat.reduceBEq, Nat.reduceLeDiff, Int.reduceToNat, Int.reduceLT, Int.reduceLE, Int.reduceEq, reduceCtorEq, ↓reduceIte] at g11
    try simp -implicitDefEqProofs only [go_sem, Nat.reduceLT, Nat.reduceAdd, Nat.reduceSub, Nat.reduceMul, Nat.reduceEqDiff, Nat.reduceBEq, Nat.reduceLeDiff, Int.reduceToNat, Int.reduceLT, Int.reduceLE, Int.reduceEq, reduceCtorEq, ↓reduceIte] at g12
    obtain ⟨v16, q14, h⟩ := bnd_some h
    have w15 := e65_2 a0 a1 a2 x3 x8 v16 q14
    simp only [X65_2] at w15
    try simp -implicitDefEqProofs only [go_sem, Nat.reduceLT, Nat.reduceAdd, Nat.reduceSub, Nat.reduceMul, Nat.reduceEqDiff, Nat.reduceBEq, Nat.reduceLeDiff, Int.reduceToNat, Int.reduceLT, Int.reduceLE, Int.reduceEq, reduceCtorEq, ↓reduceIte] at w15
    try simp -implicitDefEqProofs only [go_sem, Nat.reduceLT, Nat.reduceAdd, Nat.reduceSub, Nat.reduceMul, Nat.reduceEqDiff, Nat.reduceBEq, Nat.reduceLeDiff, Int.reduceToNat, Int.reduceLT, Int.reduceLE, Int.reduceEq, reduceCtorEq, ↓reduceIte, X65_1, k65_1, b2, g5, g6, g7, g10, g11, g12, w15]
    cases b17 : (v16 : Bool)
    · replace h := br_f b17 h
      try simp -implicitDefEqProofs only [go_sem, Nat.reduceLT, Nat.reduceAdd, Nat.reduceSub, Nat.reduceMul, Nat.reduceEqDiff, Nat.reduceBEq, Nat.reduceLeDiff, Int.reduceToNat, Int.reduceLT, Int.reduceLE, Int.reduceEq, reduceCtorEq, ↓reduceIte, X65_1, k65_1, b2, g5, g6, g7, g10, g11, g12, w15, b17]
      cases b18 : (eqI x3.kind_ 2 : Bool)
      · replace h := br_f b18 h
        try simp -implicitDefEqProofs only [go_sem, Nat.reduceLT, Nat.reduceAdd, Nat.reduceSub, Nat.reduceMul, Nat.reduceEqDiff, Nat.reduceBEq, Nat.reduceLeDiff, Int.reduceToNat, Int.reduceLT, Int.reduceLE, Int.reduceEq, reduceCtorEq, ↓reduceIte, X65_1, k65_1, b2, g5, g6, g7, g10, g11, g12, w15, b17, b18]
        cases b19 : (eqI x8.kind_ 2 : Bool)
        · replace h := br_f b19 h
          cases h
          simp -implicitDefEqProofs only [go_sem, Nat.reduceLT, Nat.reduceAdd, Nat.reduceSub, Nat.reduceMul, Nat.reduceEqDiff, Nat.reduceBEq, Nat.reduceLeDiff, Int.reduceToNat, Int.reduceLT, Int.reduceLE, Int.reduceEq, reduceCtorEq, ↓reduceIte, X65_1, k65_1, b2, g5, g6, g7, g10, g11, g12, w15, b17, b18, b19]
        · replace h := br_t b19 h
          cases h
          simp -implicitDefEqProofs only [go_sem, Nat.reduceLT, Nat.reduceAdd, Nat.reduceSub, Nat.reduceMul, Nat.reduceEqDiff, Nat.reduceBEq, Nat.reduceLeDiff, Int.reduceToNat, Int.reduceLT, Int.reduceLE, Int.reduceEq, reduceCtorEq, ↓reduceIte, X65_1, k65_1, b2, g5, g6, g7, g10, g11, g12, w15, b17, b18, b19]
      · replace h := br_t b18 h
        cases h
        simp -implicitDefEqProofs only [go_sem, Nat.reduceLT, Nat.reduceAdd, Nat.reduceSub, Nat.reduceMul, Nat.reduceEqDiff, Nat.reduceBEq, Nat.reduceLeDiff, Int.reduceToNat, Int.reduceLT, Int.reduceLE, Int.reduceEq, reduceCtorEq, ↓reduceIte, X65_1, k65_1, b2, g5, g6, g7, g10, g11, g12, w15, b17, b18]
    · replace h := br_t b17 h
      cases h
      simp -implicitDefEqProofs only [go_sem, Nat.reduceLT, Nat.reduceAdd, Nat.reduceSub, Nat.reduceMul, Nat.reduceEqDiff, Nat.reduceBEq, Nat.reduceLeDiff, Int.reduceToNat, Int.reduceLT, Int.reduceLE, Int.reduceEq, reduceCtorEq, ↓reduceIte, X65_1, k65_1, b2, g5, g6, g7, g10, g11, g12, w15, b17]
theorem e65 (a0 : Int) (a1 : Int) (a2 : (List l6T)) (r : l6T) (h : m65 a0 a1 a2 = some r) : evFL T 65 [.int .i64 a0, .int .i64 a1, .ts .imm 3 (a2.map (encl6T .imm))] [] = some (.agg [.int .i64 r.kind_, .int .i64 r.n_, .ts .imm 3 (r.kids_.map (encl6T .imm))], []) := by
  unfold m65 at h
  rw [evFL_at fn65 (Nat.le_of_ble_eq_true rfl) rfl (.inr rfl) ⟨rfl, rfl⟩]
  try simp -implicitDefEqProofs only [go_sem, Nat.reduceLT, Nat.reduceAdd, Nat.reduceSub, Nat.reduceMul, Nat.reduceEqDiff, Nat.reduceBEq, Nat.reduceLeDiff, Int.reduceToNat, Int.reduceLT, Int.reduceLE, Int.reduceEq, reduceCtorEq, ↓reduceIte, i65, c65]
  obtain ⟨o, q65, h⟩ := bnd_some h
  rcases o with ⟨⟩ | ⟨v67, v68, v69⟩
  · replace h := selS_l h
    have w66 := e65_1 a0 a1 a2 (eqI a0 5) (.inl ()) q65
    simp only [X65_1] at w66
    try simp -implicitDefEqProofs only [go_sem, Nat.reduceLT, Nat.reduceAdd, Nat.reduceSub, Nat.reduceMul, Nat.reduceEqDiff, Nat.reduceBEq, Nat.reduceLeDiff, Int.reduceToNat, Int.reduceLT, Int.reduceLE, Int.reduceEq, reduceCtorEq, ↓reduceIte] at w66
    cases h
    simp -implicitDefEqProofs only [go_sem, Nat.reduceLT, Nat.reduceAdd, Nat.reduceSub, Nat.reduceMul, Nat.reduceEqDiff, Nat.reduceBEq, Nat.reduceLeDiff, Int.reduceToNat, Int.reduceLT, Int.reduceLE, Int.reduceEq, reduceCtorEq, ↓reduceIte, i65, c65, w66]
  · replace h := selS_r h
    replace h := sel3_some h
    have w66 := e65_1 a0 a1 a2 (eqI a0 5) (.inr (v67, v68, v69)) q65
    simp only [X65_1] at w66
    try simp -implicitDefEqProofs only [go_sem, Nat.reduceLT, Nat.reduceAdd, Nat.reduceSub, Nat.reduceMul, Nat.reduceEqDiff, Nat.reduceBEq, Nat.reduceLeDiff, Int.reduceToNat, Int.reduceLT, Int.reduceLE, Int.reduceEq, reduceCtorEq, ↓reduceIte] at w66
    cases h
    simp -implicitDefEqProofs only [go_sem, Nat.reduceLT, Nat.reduceAdd, Nat.reduceSub, Nat.reduceMul, Nat.reduceEqDiff, Nat.reduceBEq, Nat.reduceLeDiff, Int.reduceToNat, Int.reduceLT, Int.reduceLE, Int.reduceEq, reduceCtorEq, ↓reduceIte, i65, c65, w66]
-- f38 spec.l6Tidy
theorem call38 (args : List AV) (S : St) : evCall T (evFL T) 38 args S = treeC false (evFL T 38) S args (lendAll S [[0, 0, 3]] args) := evCallT fn38 rfl rfl rfl args S
attribute [go_sem] call38
noncomputable def X38_1 (a0 : l6T) (p1 : Int) (o : (List l6T)) : Ex × Fr × St :=
  (.exit 0, frOf 25 (upd (upd (upd anyF 1 (.ptr 0 0 0)) 2 (.ptr 1 0 0)) 3 (.sl 3 0 o.length)), [some ⟨.box, 3, [[.int .i64 a0.kind_, .int .i64 a0.n_, .ts .imm 3 (a0.kids_.map (encl6T .imm))]]⟩, some ⟨.box, 3, [[.int .i64 0, .int .i64 0, .sl 2 0 0]]⟩, some ⟨.arr, 3, []⟩, some ⟨.arr, 3, o.map (encl6T .imm)⟩])
noncomputable def E38_1 (a0 : l6T) (p1 : Int) (s : (Int × List l6T)) : Fr × St := (frOf 25 (upd (upd (upd (upd (upd (upd anyF 1 (.ptr 0 0 0)) 2 (.ptr 1 0 0)) 3 (.sl 3 0 s.2.length)) 7 (.ts .imm 3 (a0.kids_.map (encl6T .imm)))) 8 (.int .i64 p1)) 9 (.int .i64 s.1)), [some ⟨.box, 3, [[.int .i64 a0.kind_, .int .i64 a0.n_, .ts .imm 3 (a0.kids_.map (encl6T .imm))]]⟩, some ⟨.box, 3, [[.int .i64 0, .int .i64 0, .sl 2 0 0]]⟩, some ⟨.arr, 3, []⟩, some ⟨.arr, 3, s.2.map (encl6T .imm)⟩])
theorem b38_1 (rc : l6T → Option l6T) (hrc : ∀ (a0 : l6T) (r : l6T), rc a0 = some r → evFL T 38 [.agg [.int .i64 a0.kind_, .int .i64 a0.n_, .ts .imm 3 (a0.kids_.map (encl6T .imm))]] [] = some (.agg [.int .i64 r.kind_, .int .i64 r.n_, .ts .imm 3 (r.kids_.map (encl6T .imm))], [])) (a0 : l6T) (p1 : Int) (s : (Int × List l6T)) (o : Ctl (Int × List l6T) (List l6T)) (h : m38_1b rc a0 p1 s = some o) : evCL T 0 k38_1b (E38_1 a0 p1 s).1 (E38_1 a0 p1 s).2 = some (ctlX (E38_1 a0 p1) (X38_1 a0 p1) o) := by
  unfold m38_1b at h
  obtain ⟨s11, s12⟩ := s
  replace h := sel2_some h
  try simp -implicitDefEqProofs only [go_sem, Nat.reduceLT, Nat.reduceAdd, Nat.reduceSub, Nat.reduceMul, Nat.reduceEqDiff, Nat.reduceBEq, Nat.reduceLeDiff, Int.reduceToNat, Int.reduceLT, Int.reduceLE, Int.reduceEq, reduceCtorEq, ↓reduceIte, E38_1, X38_1, k38_1b]
  cases b13 : (ltI s11 p1 : Bool)
  · replace h := br_f b13 h
    cases h
    simp -implicitDefEqProofs only [go_sem, Nat.reduceLT, Nat.reduceAdd, Nat.reduceSub, Nat.reduceMul, Nat.reduceEqDiff, Nat.reduceBEq, Nat.reduceLeDiff, Int.reduceToNat, Int.reduceLT, Int.reduceLE, Int.reduceEq, reduceCtorEq, ↓reduceIte, E38_1, X38_1, k38_1b, b13]
  · replace h := br_t b13 h
    obtain ⟨x14, q15, h⟩ := bnd_some h
    obtain ⟨g16, g17, g18⟩ := idx_row (encl6T .imm) q15
    try simp -implicitDefEqProofs only [go_sem, Nat.reduceLT, Nat.reduceAdd, Nat.reduceSub, Nat.reduceMul, Nat.reduceEqDiff, Nat.reduceBEq, Nat.reduceLeDiff, Int.reduceToNat, Int.reduceLT, Int.reduceLE, Int.reduceEq, reduceCtorEq, ↓reduceIte] at g17
    try simp -implicitDefEqProofs only [go_sem, Nat.reduceLT, Nat.reduceAdd, Nat.reduceSub, Nat.reduceMul, Nat.reduceEqDiff, Nat.reduceBEq, Nat.reduceLeDiff, Int.reduceToNat, Int.reduceLT, Int.reduceLE, Int.reduceEq, reduceCtorEq, ↓reduceIte] at g18
    obtain ⟨r21, q19, h⟩ := bnd_some h
    have w20 := hrc x14 r21 q19
    try simp -implicitDefEqProofs only [go_sem, Nat.reduceLT, Nat.reduceAdd, Nat.reduceSub, Nat.reduceMul, Nat.reduceEqDiff, Nat.reduceBEq, Nat.reduceLeDiff, Int.reduceToNat, Int.reduceLT, Int.reduceLE, Int.reduceEq, reduceCtorEq, ↓reduceIte] at w20
    obtain ⟨g22, h⟩ := ck_some h
    try simp -implicitDefEqProofs only [go_sem, Nat.reduceLT, Nat.reduceAdd, Nat.reduceSub, Nat.reduceMul, Nat.reduceEqDiff, Nat.reduceBEq, Nat.reduceLeDiff, Int.reduceToNat, Int.reduceLT, Int.reduceLE, Int.reduceEq, reduceCtorEq, ↓reduceIte] at g22
    cases h
    simp -implicitDefEqProofs only [go_sem, Nat.reduceLT, Nat.reduceAdd, Nat.reduceSub, Nat.reduceMul, Nat.reduceEqDiff, Nat.reduceBEq, Nat.reduceLeDiff, Int.reduceToNat, Int.reduceLT, Int.reduceLE, Int.reduceEq, reduceCtorEq, ↓reduceIte, E38_1, X38_1, k38_1b, b13, g16, g17, g18, w20, g22]
theorem e38_1 (rc : l6T → Option l6T) (hrc : ∀ (a0 : l6T) (r : l6T), rc a0 = some r → evFL T 38 [.agg [.int .i64 a0.kind_, .int .i64 a0.n_, .ts .imm 3 (a0.kids_.map (encl6T .imm))]] [] = some (.agg [.int .i64 r.kind_, .int .i64 r.n_, .ts .imm 3 (r.kids_.map (encl6T .imm))], [])) (a0 : l6T) (p1 : Int) (s : (Int × List l6T)) (o : (List l6T)) (h : loopP (m38_1b rc a0 p1) s = some o) : evCL T 0 (.loop k38_1b) (E38_1 a0 p1 s).1 (E38_1 a0 p1 s).2 = some (X38_1 a0 p1 o) :=
  loop_walk (E := E38_1 a0 p1) (X := X38_1 a0 p1) (by intro b; (simp only [X38_1]; nofun)) (b38_1 rc hrc a0 p1) s o h
theorem e38r (rc : l6T → Option l6T) (hrc : ∀ (a0 : l6T) (r : l6T), rc a0 = some r → evFL T 38 [.agg [.int .i64 a0.kind_, .int .i64 a0.n_, .ts .imm 3 (a0.kids_.map (encl6T .imm))]] [] = some (.agg [.int .i64 r.kind_, .int .i64 r.n_, .ts .imm 3 (r.kids_.map (encl6T .imm))], [])) (a0 : l6T) (r : l6T) (h : m38r rc a0 = some r) : evFL T 38 [.agg [.int .i64 a0.kind_, .int .i64 a0.n_, .ts .imm 3 (a0.kids_.map (encl6T .imm))]] [] = some (.agg [.int .i64 r.kind_, .int .i64 r.n_, .ts .imm 3 (r.kids_.map (encl6T .imm))], []) := by
  unfold m38r at h
  rw [evFL_at fn38 (Nat.le_of_ble_eq_true rfl) rfl (.inr rfl) ⟨rfl, rfl⟩]
  obtain ⟨v25, q23, h⟩ := bnd_some h
  have w24 := e38_1 rc hrc a0 (↑a0.kids_.length : Int) (0, []) v25 q23
  simp only [E38_1, X38_1] at w24
  try simp -implicitDefEqProofs only [go_sem, Nat.reduceLT, Nat.reduceAdd, Nat.reduceSub, Nat.reduceMul, Nat.reduceEqDiff, Nat.reduceBEq, Nat.reduceLeDiff, Int.reduceToNat, Int.reduceLT, Int.reduceLE, Int.reduceEq, reduceCtorEq, ↓reduceIte] at w24
  obtain ⟨r28, q26, h⟩ := bnd_some h
  have w27 := e65 a0.kind_ a0.n_ v25 r28 q26
  try simp -implicitDefEqProofs only [go_sem, Nat.reduceLT, Nat.reduceAdd, Nat.reduceSub, Nat.reduceMul, Nat.reduceEqDiff, Nat.reduceBEq, Nat.reduceLeDiff, Int.reduceToNat, Int.reduceLT, Int.reduceLE, Int.reduceEq, reduceCtorEq, ↓reduceIte] at w27
  cases h
  simp -implicitDefEqProofs only [go_sem, Nat.reduceLT, Nat.reduceAdd, Nat.reduceSub, Nat.reduceMul, Nat.reduceEqDiff, Nat.reduceBEq, Nat.reduceLeDiff, Int.reduceToNat, Int.reduceLT, Int.reduceLE, Int.reduceEq, reduceCtorEq, ↓reduceIte, i38, c38, w24, w27]
theorem e38k : ∀ (k : Nat) (a0 : l6T) (r : l6T) (h : m38k k a0 = some r), evFL T 38 [.agg [.int .i64 a0.kind_, .int .i64 a0.n_, .ts .imm 3 (a0.kids_.map (encl6T .imm))]] [] = some (.agg [.int .i64 r.kind_, .int .i64 r.n_, .ts .imm 3 (r.kids_.map (encl6T .imm))], []) := by
  intro k
  induction k with
  | zero => intro a0 r h; cases h
  | succ k ih => intro a0 r h; exact e38r (m38k k) (fun a0 r h => ih a0 r h) a0 r h
theorem e38 (a0 : l6T) (r : l6T) (h : m38 a0 = some r) : evFL T 38 [.agg [.int .i64 a0.kind_, .int .i64 a0.n_, .ts .imm 3 (a0.kids_.map (encl6T .imm))]] [] = some (.agg [.int .i64 r.kind_, .int .i64 r.n_, .ts .imm 3 (r.kids_.map (encl6T .imm))], []) := by
  obtain ⟨N, hN⟩ := limO_iff.1 h
  exact e38k N a0 r (hN N (Nat.le_refl N))
-- f37 spec.l6Flat
theorem call37 (args : List AV) (S : St) : evCall T (evFL T) 37 args S = c3A true true (evFL T 37) (rawAll S [[0, 0, 3], [2]] args) := evCall3_g fn37 rfl (fun h => absurd h.1 (by decide)) args S
attribute [go_sem] call37
noncomputable def X37_1 (a0 : l6T) (p2 : Int) (o : (List ReCell)) : Ex × Fr × St :=
  (.exit 0, frOf 27 (upd anyF 1 (.sl 1 0 o.length)), [none, some ⟨.arr, 2, o.map encReCell⟩])
noncomputable def E37_1 (a0 : l6T) (p2 : Int) (s : (Int × List ReCell)) : Fr × St := (frOf 27 (upd (upd (upd (upd anyF 1 (.sl 1 0 s.2.length)) 16 (.ts .imm 3 (a0.kids_.map (encl6T .imm)))) 17 (.int .i64 p2)) 18 (.int .i64 s.1)), [none, some ⟨.arr, 2, s.2.map encReCell⟩])
theorem b37_1 (rc : l6T → (List ReCell) → Option (List ReCell)) (hrc : ∀ (a0 : l6T) (a1 : (List ReCell)) (r : List ReCell), rc a0 a1 = some r → evFL T 37 [.agg [.int .i64 a0.kind_, .int .i64 a0.n_, .ts .imm 3 (a0.kids_.map (encl6T .imm))], .sl 0 0 a1.length] [some ⟨.arr, 2, a1.map encReCell⟩] = some (.sl 1 0 r.length, [none, some ⟨.arr, 2, r.map encReCell⟩])) (a0 : l6T) (p2 : Int) (s : (Int × List ReCell)) (o : Ctl (Int × List ReCell) (List ReCell)) (h : m37_1b rc a0 p2 s = some o) : evCL T 1 k37_1b (E37_1 a0 p2 s).1 (E37_1 a0 p2 s).2 = some (ctlX (E37_1 a0 p2) (X37_1 a0 p2) o) := by
  unfold m37_1b at h
  obtain ⟨s13, s14⟩ := s
  replace h := sel2_some h
  try simp -implicitDefEqProofs only [go_sem, Nat.reduceLT, Nat.reduceAdd, Nat.reduceSub, Nat.reduceMul, Nat.reduceEqDiff, Nat.reduceBEq, Nat.reduceLeDiff, Int.reduceToNat, Int.reduceLT, Int.reduceLE, Int.reduceEq, reduceCtorEq, ↓reduceIte, E37_1, X37_1, k37_1b]
  cases b15 : (ltI s13 p2 : Bool)
  · replace h := br_f b15 h
    cases h
    simp -implicitDefEqProofs only [go_sem, Nat.reduceLT, Nat.reduceAdd, Nat.reduceSub, Nat.reduceMul, Nat.reduceEqDiff, Nat.reduceBEq, Nat.reduceLeDiff, Int.reduceToNat, Int.reduceLT, Int.reduceLE, Int.reduceEq, reduceCtorEq, ↓reduceIte, E37_1, X37_1, k37_1b, b15]
  · replace h := br_t b15 h
    obtain ⟨x16, q17, h⟩ := bnd_some h
    obtain ⟨g18, g19, g20⟩ := idx_row (encl6T .imm) q17
    try simp -implicitDefEqProofs only [go_sem, Nat.reduceLT, Nat.reduceAdd, Nat.reduceSub, Nat.reduceMul, Nat.reduceEqDiff, Nat.reduceBEq, Nat.reduceLeDiff, Int.reduceToNat, Int.reduceLT, Int.reduceLE, Int.reduceEq, reduceCtorEq, ↓reduceIte] at g19
    try simp -implicitDefEqProofs only [go_sem, Nat.reduceLT, Nat.reduceAdd, Nat.reduceSub, Nat.reduceMul, Nat.reduceEqDiff, Nat.reduceBEq, Nat.reduceLeDiff, Int.reduceToNat, Int.reduceLT, Int.reduceLE, Int.reduceEq, reduceCtorEq, ↓reduceIte] at g20
    obtain ⟨r23, q21, h⟩ := bnd_some h
    have w22 := hrc x16 s14 r23 q21
    try simp -implicitDefEqProofs only [go_sem, Nat.reduceLT, Nat.reduceAdd, Nat.reduceSub, Nat.reduceMul, Nat.reduceEqDiff, Nat.reduceBEq, Nat.reduceLeDiff, Int.reduceToNat, Int.reduceLT, Int.reduceLE, Int.reduceEq, reduceCtorEq, ↓reduceIte] at w22
    cases h
    simp -implicitDefEqProofs only [go_sem, Nat.reduceLT, Nat.reduceAdd, Nat.reduceSub, Nat.reduceMul, Nat.reduceEqDiff, Nat.reduceBEq, Nat.reduceLeDiff, Int.reduceToNat, Int.reduceLT, Int.reduceLE, Int.reduceEq, reduceCtorEq, ↓reduceIte, E37_1, X37_1, k37_1b, b15, g18, g19, g20, w22]
theorem e37_1 (rc : l6T → (List ReCell) → Option (List ReCell)) (hrc : ∀ (a0 : l6T) (a1 : (List ReCell)) (r : List ReCell), rc a0 a1 = some r → evFL T 37 [.agg [.int .i64 a0.kind_, .int .i64 a0.n_, .ts .imm 3 (a0.kids_.map (encl6T .imm))], .sl 0 0 a1.length] [some ⟨.arr, 2, a1.map encReCell⟩] = some (.sl 1 0 r.length, [none, some ⟨.arr, 2, r.map encReCell⟩])) (a0 : l6T) (p2 : Int) (s : (Int × List ReCell)) (o : (List ReCell)) (h : loopP (m37_1b rc a0 p2) s = some o) : evCL T 1 (.loop k37_1b) (E37_1 a0 p2 s).1 (E37_1 a0 p2 s).2 = some (X37_1 a0 p2 o) :=
  loop_walk (E := E37_1 a0 p2) (X := X37_1 a0 p2) (by intro b; (simp only [X37_1]; nofun)) (b37_1 rc hrc a0 p2) s o h
theorem e37r (rc : l6T → (List ReCell) → Option (List ReCell)) (hrc : ∀ (a0 : l6T) (a1 : (List ReCell)) (r : List ReCell), rc a0 a1 = some r → evFL T 37 [.agg [.int .i64 a0.kind_, .int .i64 a0.n_, .ts .imm 3 (a0.kids_.map (encl6T .imm))], .sl 0 0 a1.length] [some ⟨.arr, 2, a1.map encReCell⟩] = some (.sl 1 0 r.length, [none, some ⟨.arr, 2, r.map encReCell⟩])) (a0 : l6T) (a1 : (List ReCell)) (r : List ReCell) (h : m37r rc a0 a1 = some r) : evFL T 37 [.agg [.int .i64 a0.kind_, .int .i64 a0.n_, .ts .imm 3 (a0.kids_.map (encl6T .imm))], .sl 0 0 a1.length] [some ⟨.arr, 2, a1.map encReCell⟩] = some (.sl 1 0 r.length, [none, some ⟨.arr, 2, r.map encReCell⟩]) := by
  unfold m37r at h
  rw [evFL_at fn37 (Nat.le_of_ble_eq_true rfl) rfl (.inl rfl) ⟨rfl, rfl⟩]
  obtain ⟨g1, h⟩ := ck_some h
  try simp -implicitDefEqProofs only [go_sem, Nat.reduceLT, Nat.reduceAdd, Nat.reduceSub, Nat.reduceMul, Nat.reduceEqDiff, Nat.reduceBEq, Nat.reduceLeDiff, Int.reduceToNat, Int.reduceLT, Int.reduceLE, Int.reduceEq, reduceCtorEq, ↓reduceIte] at g1
  obtain ⟨v26, q24, h⟩ := bnd_some h
  have w25 := e37_1 rc hrc a0 (↑a0.kids_.length : Int) (0, a1 ++ [(⟨a0.kind_, a0.n_⟩ : ReCell)]) v26 q24
  simp only [E37_1, X37_1] at w25
  try simp -implicitDefEqProofs only [go_sem, Nat.reduceLT, Nat.reduceAdd, Nat.reduceSub, Nat.reduceMul, Nat.reduceEqDiff, Nat.reduceBEq, Nat.reduceLeDiff, Int.reduceToNat, Int.reduceLT, Int.reduceLE, Int.reduceEq, reduceCtorEq, ↓reduceIte] at w25
  cases h
  simp -implicitDefEqProofs only [go_sem, Nat.reduceLT, Nat.reduceAdd, Nat.reduceSub, Nat.reduceMul, Nat.reduceEqDiff, Nat.reduceBEq, Nat.reduceLeDiff, Int.reduceToNat, Int.reduceLT, Int.reduceLE, Int.reduceEq, reduceCtorEq, ↓reduceIte, i37, c37, g1, w25]
theorem e37k : ∀ (k : Nat) (a0 : l6T) (a1 : (List ReCell)) (r : List ReCell) (h : m37k k a0 a1 = some r), evFL T 37 [.agg [.int .i64 a0.kind_, .int .i64 a0.n_, .ts .imm 3 (a0.kids_.map (encl6T .imm))], .sl 0 0 a1.length] [some ⟨.arr, 2, a1.map encReCell⟩] = some (.sl 1 0 r.length, [none, some ⟨.arr, 2, r.map encReCell⟩]) := by
  intro k
  induction k with
  | zero => intro a0 a1 r h; cases h
  | succ k ih => intro a0 a1 r h; exact e37r (m37k k) (fun a0 a1 r h => ih a0 a1 r h) a0 a1 r h
theorem e37 (a0 : l6T) (a1 : (List ReCell)) (r : List ReCell) (h : m37 a0 a1 = some r) : evFL T 37 [.agg [.int .i64 a0.kind_, .int .i64 a0.n_, .ts .imm 3 (a0.kids_.map (encl6T .imm))], .sl 0 0 a1.length] [some ⟨.arr, 2, a1.map encReCell⟩] = some (.sl 1 0 r.length, [none, some ⟨.arr, 2, r.map encReCell⟩]) := by
  obtain ⟨N, hN⟩ := limO_iff.1 h
  exact e37k N a0 a1 r (hN N (Nat.le_refl N))
-- f40 spec.GoodRegex
theorem call40 (args : List AV) (S : St) : evCall T (evFL T) 40 args S = lendC (evFL T 40) S (lendAll S [[2]] args) := evCall0 fn40 rfl rfl rfl args S
theorem callz40 (args : List AV) (S : St) : evCallFz T (evFL T) 40 args S = lendZ (evFL T 40) S [[0]] (lendAll S [[2]] args) := evCallFz0 fn40 rfl rfl rfl args S
attribute [go_sem] call40 callz40
theorem e40 (a0 : (List ReCell)) (r : Bool) (h : m40 a0 = some r) : evFL T 40 [.ts .imm 2 (a0.map encReCell)] [] = some (.bool r, []) := by
  unfold m40 at h
  rw [evFL_at fn40 (Nat.le_of_ble_eq_true rfl) rfl (.inr rfl) ⟨rfl, rfl⟩]
  obtain ⟨⟨r3, r4⟩, q1, h⟩ := bnd_some h
  replace h := sel2_some h
  have w2 := e28 a0 (r3, r4) q1
  try simp -implicitDefEqProofs only [go_sem, Nat.reduceLT, Nat.reduceAdd, Nat.reduceSub, Nat.reduceMul, Nat.reduceEqDiff, Nat.reduceBEq, Nat.reduceLeDiff, Int.reduceToNat, Int.reduceLT, Int.reduceLE, Int.reduceEq, reduceCtorEq, ↓reduceIte] at w2
  cases h
  simp -implicitDefEqProofs only [go_sem, Nat.reduceLT, Nat.reduceAdd, Nat.reduceSub, Nat.reduceMul, Nat.reduceEqDiff, Nat.reduceBEq, Nat.reduceLeDiff, Int.reduceToNat, Int.reduceLT, Int.reduceLE, Int.reduceEq, reduceCtorEq, ↓reduceIte, i40, c40, w2]
-- f13 spec.DeriveBy
theorem call13 (args : List AV) (S : St) : evCall T (evFL T) 13 args S = lendC (evFL T 13) S (lendAll S [[2], [0]] args) := evCall0 fn13 rfl rfl rfl args S
theorem callz13 (args : List AV) (S : St) : evCallFz T (evFL T) 13 args S = lendZ (evFL T 13) S [[2], [0]] (lendAll S [[2], [0]] args) := evCallFz0 fn13 rfl rfl rfl args S
attribute [go_sem] call13 callz13
noncomputable def X13_1 (a1 : Int) (r4 : Bool) (r3 : l6T) (o : Bool) : Ex × Fr × St :=
  (.normal, frOf 30 (upd (upd (upd anyF 1 (.int .i64 a1)) 6 (.ptr 0 0 0)) 20 (.bool o)), [some ⟨.box, 3, [[.int .i64 r3.kind_, .int .i64 r3.n_, .sl 1 0 r3.kids_.length]]⟩, some ⟨.arr, 3, r3.kids_.map (encl6T .own)⟩])
theorem e13_1 (a1 : Int) (r4 : Bool) (r3 : l6T) (o : Bool) (h : m13_1 a1 r4 = some o) : evCL T 0 k13_1 (frOf 30 (upd (upd (upd anyF 1 (.int .i64 a1)) 6 (.ptr 0 0 0)) 7 (.bool r4))) [some ⟨.box, 3, [[.int .i64 r3.kind_, .int .i64 r3.n_, .sl 1 0 r3.kids_.length]]⟩, some ⟨.arr, 3, r3.kids_.map (encl6T .own)⟩] = some (X13_1 a1 r4 r3 o) := by
  unfold m13_1 at h
  try simp -implicitDefEqProofs only [go_sem, Nat.reduceLT, Nat.reduceAdd, Nat.reduceSub, Nat.reduceMul, Nat.reduceEqDiff, Nat.reduceBEq, Nat.reduceLeDiff, Int.reduceToNat, Int.reduceLT, Int.reduceLE, Int.reduceEq, reduceCtorEq, ↓reduceIte, X13_1, k13_1]
  cases b5 : (r4 : Bool)
  · replace h := br_f b5 h
    cases h
    simp -implicitDefEqProofs only [go_sem, Nat.reduceLT, Nat.reduceAdd, Nat.reduceSub, Nat.reduceMul, Nat.reduceEqDiff, Nat.reduceBEq, Nat.reduceLeDiff, Int.reduceToNat, Int.reduceLT, Int.reduceLE, Int.reduceEq, reduceCtorEq, ↓reduceIte, X13_1, k13_1, b5]
  · replace h := br_t b5 h
    obtain ⟨r8, q6, h⟩ := bnd_some h
    have w7 := e36 a1 1 65535 r8 q6
    try simp -implicitDefEqProofs only [go_sem, Nat.reduceLT, Nat.reduceAdd, Nat.reduceSub, Nat.reduceMul, Nat.reduceEqDiff, Nat.reduceBEq, Nat.reduceLeDiff, Int.reduceToNat, Int.reduceLT, Int.reduceLE, Int.reduceEq, reduceCtorEq, ↓reduceIte] at w7
    cases h
    simp -implicitDefEqProofs only [go_sem, Nat.reduceLT, Nat.reduceAdd, Nat.reduceSub, Nat.reduceMul, Nat.reduceEqDiff, Nat.reduceBEq, Nat.reduceLeDiff, Int.reduceToNat, Int.reduceLT, Int.reduceLE, Int.reduceEq, reduceCtorEq, ↓reduceIte, X13_1, k13_1, b5, w7]
theorem e13 (a0 : (List ReCell)) (a1 : Int) (r : ((List ReCell) × Bool)) (h : m13 a0 a1 = some r) : evFL T 13 [.ts .imm 2 (a0.map encReCell), .int .i64 a1] [] = some (.tup [.sl 0 0 r.1.length, .bool r.2], [some ⟨.arr, 2, r.1.map encReCell⟩]) := by
  unfold m13 at h
  rw [evFL_at fn13 (Nat.le_of_ble_eq_true rfl) rfl (.inr rfl) ⟨rfl, rfl⟩]
  obtain ⟨⟨r3, r4⟩, q1, h⟩ := bnd_some h
  replace h := sel2_some h
  have w2 := e28 a0 (r3, r4) q1
  try simp -implicitDefEqProofs only [go_sem, Nat.reduceLT, Nat.reduceAdd, Nat.reduceSub, Nat.reduceMul, Nat.reduceEqDiff, Nat.reduceBEq, Nat.reduceLeDiff, Int.reduceToNat, Int.reduceLT, Int.reduceLE, Int.reduceEq, reduceCtorEq, ↓reduceIte] at w2
  obtain ⟨v11, q9, h⟩ := bnd_some h
  have w10 := e13_1 a1 r4 r3 v11 q9
  simp only [X13_1] at w10
  try simp -implicitDefEqProofs only [go_sem, Nat.reduceLT, Nat.reduceAdd, Nat.reduceSub, Nat.reduceMul, Nat.reduceEqDiff, Nat.reduceBEq, Nat.reduceLeDiff, Int.reduceToNat, Int.reduceLT, Int.reduceLE, Int.reduceEq, reduceCtorEq, ↓reduceIte] at w10
  try simp -implicitDefEqProofs only [go_sem, Nat.reduceLT, Nat.reduceAdd, Nat.reduceSub, Nat.reduceMul, Nat.reduceEqDiff, Nat.reduceBEq, Nat.reduceLeDiff, Int.reduceToNat, Int.reduceLT, Int.reduceLE, Int.reduceEq, reduceCtorEq, ↓reduceIte, i13, c13, w2, w10]
  cases b12 : (v11 : Bool)
  · replace h := br_f b12 h
    obtain ⟨r15, q13, h⟩ := bnd_some h
    have w14 := e39 r3 a1 r15 q13
    try simp -implicitDefEqProofs only [go_sem, Nat.reduceLT, Nat.reduceAdd, Nat.reduceSub, Nat.reduceMul, Nat.reduceEqDiff, Nat.reduceBEq, Nat.reduceLeDiff, Int.reduceToNat, Int.reduceLT, Int.reduceLE, Int.reduceEq, reduceCtorEq, ↓reduceIte] at w14
    obtain ⟨r18, q16, h⟩ := bnd_some h
    have w17 := e38 r15 r18 q16
    try simp -implicitDefEqProofs only [go_sem, Nat.reduceLT, Nat.reduceAdd, Nat.reduceSub, Nat.reduceMul, Nat.reduceEqDiff, Nat.reduceBEq, Nat.reduceLeDiff, Int.reduceToNat, Int.reduceLT, Int.reduceLE, Int.reduceEq, reduceCtorEq, ↓reduceIte] at w17
    obtain ⟨r21, q19, h⟩ := bnd_some h
    have w20 := e37 r18 [] r21 q19
    try simp -implicitDefEqProofs only [go_sem, Nat.reduceLT, Nat.reduceAdd, Nat.reduceSub, Nat.reduceMul, Nat.reduceEqDiff, Nat.reduceBEq, Nat.reduceLeDiff, Int.reduceToNat, Int.reduceLT, Int.reduceLE, Int.reduceEq, reduceCtorEq, ↓reduceIte] at w20
    obtain ⟨r24, q22, h⟩ := bnd_some h
    have w23 := e40 r21 r24 q22
    try simp -implicitDefEqProofs only [go_sem, Nat.reduceLT, Nat.reduceAdd, Nat.reduceSub, Nat.reduceMul, Nat.reduceEqDiff, Nat.reduceBEq, Nat.reduceLeDiff, Int.reduceToNat, Int.reduceLT, Int.reduceLE, Int.reduceEq, reduceCtorEq, ↓reduceIte] at w23
    try simp -implicitDefEqProofs only [go_sem, Nat.reduceLT, Nat.reduceAdd, Nat.reduceSub, Nat.reduceMul, Nat.reduceEqDiff, Nat.reduceBEq, Nat.reduceLeDiff, Int.reduceToNat, Int.reduceLT, Int.reduceLE, Int.reduceEq, reduceCtorEq, ↓reduceIte, i13, c13, w2, w10, b12, w14, w17, w20, w23]
    cases b25 : (r24 : Bool)
    · replace h := br_f b25 h
      cases h
      simp -implicitDefEqProofs only [go_sem, Nat.reduceLT, Nat.reduceAdd, Nat.reduceSub, Nat.reduceMul, Nat.reduceEqDiff, Nat.reduceBEq, Nat.reduceLeDiff, Int.reduceToNat, Int.reduceLT, Int.reduceLE, Int.reduceEq, reduceCtorEq, ↓reduceIte, i13, c13, w2, w10, b12, w14, w17, w20, w23, b25]
    · replace h := br_t b25 h
      cases h
      simp -implicitDefEqProofs only [go_sem, Nat.reduceLT, Nat.reduceAdd, Nat.reduceSub, Nat.reduceMul, Nat.reduceEqDiff, Nat.reduceBEq, Nat.reduceLeDiff, Int.reduceToNat, Int.reduceLT, Int.reduceLE, Int.reduceEq, reduceCtorEq, ↓reduceIte, i13, c13, w2, w10, b12, w14, w17, w20, w23, b25]
  · replace h := br_t b12 h
    cases h
    simp -implicitDefEqProofs only [go_sem, Nat.reduceLT, Nat.reduceAdd, Nat.reduceSub, Nat.reduceMul, Nat.reduceEqDiff, Nat.reduceBEq, Nat.reduceLeDiff, Int.reduceToNat, Int.reduceLT, Int.reduceLE, Int.reduceEq, reduceCtorEq, ↓reduceIte, i13, c13, w2, w10, b12]
-- f51 impl.within
theorem call51 (args : List AV) (S : St) : evCall T (evFL T) 51 args S = lendC (evFL T 51) S (lendAll S [[0], [0], [0]] args) := evCall0 fn51 rfl rfl rfl args S
theorem callz51 (args : List AV) (S : St) : evCallFz T (evFL T) 51 args S = lendZ (evFL T 51) S [[0]] (lendAll S [[0], [0], [0]] args) := evCallFz0 fn51 rfl rfl rfl args S
attribute [go_sem] call51 callz51
noncomputable def X51_1 (a0 : Int) (a1 : Int) (a2 : Int) (o : Bool) : Ex × Fr × St :=
  (.normal, frOf 15 (upd anyF 6 (.bool o)), [])
theorem e51_1 (a0 : Int) (a1 : Int) (a2 : Int) (o : Bool) (h : m51_1 a0 a1 a2 = some o) : evCL T 0 k51_1 (frOf 15 (upd (upd (upd anyF 0 (.int .i64 a0)) 1 (.int .i64 a1)) 2 (.int .i64 a2))) [] = some (X51_1 a0 a1 a2 o) := by
  unfold m51_1 at h
  try simp -implicitDefEqProofs only [go_sem, Nat.reduceLT, Nat.reduceAdd, Nat.reduceSub, Nat.reduceMul, Nat.reduceEqDiff, Nat.reduceBEq, Nat.reduceLeDiff, Int.reduceToNat, Int.reduceLT, Int.reduceLE, Int.reduceEq, reduceCtorEq, ↓reduceIte, X51_1, k51_1]
  cases b1 : (leI a1 a0 : Bool)
  · replace h := br_f b1 h
    cases h
    simp -implicitDefEqProofs only [go_sem, Nat.reduceLT, Nat.reduceAdd, Nat.reduceSub, Nat.reduceMul, Nat.reduceEqDiff, Nat.reduceBEq, Nat.reduceLeDiff, Int.reduceToNat, Int.reduceLT, Int.reduceLE, Int.reduceEq, reduceCtorEq, ↓reduceIte, X51_1, k51_1, b1]
  · replace h := br_t b1 h
    cases h
    simp -implicitDefEqProofs only [go_sem, Nat.reduceLT, Nat.reduceAdd, Nat.reduceSub, Nat.reduceMul, Nat.reduceEqDiff, Nat.reduceBEq, Nat.reduceLeDiff, Int.reduceToNat, Int.reduceLT, Int.reduceLE, Int.reduceEq, reduceCtorEq, ↓reduceIte, X51_1, k51_1, b1]
theorem e51 (a0 : Int) (a1 : Int) (a2 : Int) (r : Bool) (h : m51 a0 a1 a2 = some r) : evFL T 51 [.int .i64 a0, .int .i64 a1, .int .i64 a2] [] = some (.bool r, []) := by
  unfold m51 at h
  rw [evFL_at fn51 (Nat.le_of_ble_eq_true rfl) rfl (.inr rfl) ⟨rfl, rfl⟩]
  obtain ⟨v4, q2, h⟩ := bnd_some h
  have w3 := e51_1 a0 a1 a2 v4 q2
  simp only [X51_1] at w3
  try simp -implicitDefEqProofs only [go_sem, Nat.reduceLT, Nat.reduceAdd, Nat.reduceSub, Nat.reduceMul, Nat.reduceEqDiff, Nat.reduceBEq, Nat.reduceLeDiff, Int.reduceToNat, Int.reduceLT, Int.reduceLE, Int.reduceEq, reduceCtorEq, ↓reduceIte] at w3
  cases h
  simp -implicitDefEqProofs only [go_sem, Nat.reduceLT, Nat.reduceAdd, Nat.reduceSub, Nat.reduceMul, Nat.reduceEqDiff, Nat.reduceBEq, Nat.reduceLeDiff, Int.reduceToNat, Int.reduceLT, Int.reduceLE, Int.reduceEq, reduceCtorEq, ↓reduceIte, i51, c51, w3]
-- f67 impl.partsOf
theorem call67 (args : List AV) (S : St) : evCall T (evFL T) 67 args S = lendC (evFL T 67) S (lendAll S [[0]] args) := evCall0 fn67 rfl rfl rfl args S
theorem callz67 (args : List AV) (S : St) : evCallFz T (evFL T) 67 args S = lendZ (evFL T 67) S [[0]] (lendAll S [[0]] args) := evCallFz0 fn67 rfl rfl rfl args S
attribute [go_sem] call67 callz67
noncomputable def X67_3 (a0 : Int) (p5 : Bool) (o : Bool) : Ex × Fr × St :=
  (.normal, frOf 14 (upd (upd anyF 3 (.int .i64 a0)) 4 (.bool o)), [])
theorem e67_3 (a0 : Int) (p5 : Bool) (o : Bool) (h : m67_3 a0 p5 = some o) : evCL T 0 k67_3 (frOf 14 (upd (upd anyF 3 (.int .i64 a0)) 4 (.bool p5))) [] = some (X67_3 a0 p5 o) := by
  unfold m67_3 at h
  try simp -implicitDefEqProofs only [go_sem, Nat.reduceLT, Nat.reduceAdd, Nat.reduceSub, Nat.reduceMul, Nat.reduceEqDiff, Nat.reduceBEq, Nat.reduceLeDiff, Int.reduceToNat, Int.reduceLT, Int.reduceLE, Int.reduceEq, reduceCtorEq, ↓reduceIte, X67_3, k67_3]
  cases b6 : (p5 : Bool)
  · replace h := br_f b6 h
    cases h
    simp -implicitDefEqProofs only [go_sem, Nat.reduceLT, Nat.reduceAdd, Nat.reduceSub, Nat.reduceMul, Nat.reduceEqDiff, Nat.reduceBEq, Nat.reduceLeDiff, Int.reduceToNat, Int.reduceLT, Int.reduceLE, Int.reduceEq, reduceCtorEq, ↓reduceIte, X67_3, k67_3, b6]
  · replace h := br_t b6 h
    cases h
    simp -implicitDefEqProofs only [go_sem, Nat.reduceLT, Nat.reduceAdd, Nat.reduceSub, Nat.reduceMul, Nat.reduceEqDiff, Nat.reduceBEq, Nat.reduceLeDiff, Int.reduceToNat, Int.reduceLT, Int.reduceLE, Int.reduceEq, reduceCtorEq, ↓reduceIte, X67_3, k67_3, b6]
noncomputable def X67_2 (a0 : Int) (p3 : Bool) (o : Bool) : Ex × Fr × St :=
  (.normal, frOf 14 (upd (upd anyF 3 (.int .i64 a0)) 4 (.bool o)), [])
theorem e67_2 (a0 : Int) (p3 : Bool) (o : Bool) (h : m67_2 a0 p3 = some o) : evCL T 0 k67_2 (frOf 14 (upd (upd anyF 3 (.int .i64 a0)) 4 (.bool p3))) [] = some (X67_2 a0 p3 o) := by
  unfold m67_2 at h
  try simp -implicitDefEqProofs only [go_sem, Nat.reduceLT, Nat.reduceAdd, Nat.reduceSub, Nat.reduceMul, Nat.reduceEqDiff, Nat.reduceBEq, Nat.reduceLeDiff, Int.reduceToNat, Int.reduceLT, Int.reduceLE, Int.reduceEq, reduceCtorEq, ↓reduceIte, X67_2, k67_2]
  cases b4 : (p3 : Bool)
  · replace h := br_f b4 h
    obtain ⟨v9, q7, h⟩ := bnd_some h
    have w8 := e67_3 a0 (eqI a0 3) v9 q7
    simp only [X67_3] at w8
    try simp -implicitDefEqProofs only [go_sem, Nat.reduceLT, Nat.reduceAdd, Nat.reduceSub, Nat.reduceMul, Nat.reduceEqDiff, Nat.reduceBEq, Nat.reduceLeDiff, Int.reduceToNat, Int.reduceLT, Int.reduceLE, Int.reduceEq, reduceCtorEq, ↓reduceIte] at w8
    cases h
    simp -implicitDefEqProofs only [go_sem, Nat.reduceLT, Nat.reduceAdd, Nat.reduceSub, Nat.reduceMul, Nat.reduceEqDiff, Nat.reduceBEq, Nat.reduceLeDiff, Int.reduceToNat, Int.reduceLT, Int.reduceLE, Int.reduceEq, reduceCtorEq, ↓reduceIte, X67_2, k67_2, b4, w8]
  · replace h := br_t b4 h
    cases h
    simp -implicitDefEqProofs only [go_sem, Nat.reduceLT, Nat.reduceAdd, Nat.reduceSub, Nat.reduceMul, Nat.reduceEqDiff, Nat.reduceBEq, Nat.reduceLeDiff, Int.reduceToNat, Int.reduceLT, Int.reduceLE, Int.reduceEq, reduceCtorEq, ↓reduceIte, X67_2, k67_2, b4]
noncomputable def X67_1 (a0 : Int) (p1 : Bool) (o : Bool) : Ex × Fr × St :=
  (.normal, frOf 14 (upd (upd anyF 3 (.int .i64 a0)) 4 (.bool o)), [])
theorem e67_1 (a0 : Int) (p1 : Bool) (o : Bool) (h : m67_1 a0 p1 = some o) : evCL T 0 k67_1 (frOf 14 (upd (upd anyF 3 (.int .i64 a0)) 4 (.bool p1))) [] = some (X67_1 a0 p1 o) := by
  unfold m67_1 at h
  try simp -implicitDefEqProofs only [go_sem, Nat.reduceLT, Nat.reduceAdd, Nat.reduceSub, Nat.reduceMul, Nat.reduceEqDiff, Nat.reduceBEq, Nat.reduceLeDiff, Int.reduceToNat, Int.reduceLT, Int.reduceLE, Int.reduceEq, reduceCtorEq, ↓reduceIte, X67_1, k67_1]
  cases b2 : (p1 : Bool)
  · replace h := br_f b2 h
    obtain ⟨v12, q10, h⟩ := bnd_some h
    have w11 := e67_2 a0 (eqI a0 2) v12 q10
    simp only [X67_2] at w11
    try simp -implicitDefEqProofs only [go_sem, Nat.reduceLT, Nat.reduceAdd, Nat.reduceSub, Nat.reduceMul, Nat.reduceEqDiff, Nat.reduceBEq, Nat.reduceLeDiff, Int.reduceToNat, Int.reduceLT, Int.reduceLE, Int.reduceEq, reduceCtorEq, ↓reduceIte] at w11
    cases h
    simp -implicitDefEqProofs only [go_sem, Nat.reduceLT, Nat.reduceAdd, Nat.reduceSub, Nat.reduceMul, Nat.reduceEqDiff, Nat.reduceBEq, Nat.reduceLeDiff, Int.reduceToNat, Int.reduceLT, Int.reduceLE, Int.reduceEq, reduceCtorEq, ↓reduceIte, X67_1, k67_1, b2, w11]
  · replace h := br_t b2 h
    cases h
    simp -implicitDefEqProofs only [go_sem, Nat.reduceLT, Nat.reduceAdd, Nat.reduceSub, Nat.reduceMul, Nat.reduceEqDiff, Nat.reduceBEq, Nat.reduceLeDiff, Int.reduceToNat, Int.reduceLT, Int.reduceLE, Int.reduceEq, reduceCtorEq, ↓reduceIte, X67_1, k67_1, b2]
noncomputable def X67_4 (a0 : Int) (p18 : Bool) (o : Bool) : Ex × Fr × St :=
  (.normal, frOf 14 (upd anyF 11 (.bool o)), [])
theorem e67_4 (a0 : Int) (p18 : Bool) (o : Bool) (h : m67_4 a0 p18 = some o) : evCL T 0 k67_4 (frOf 14 (upd (upd anyF 3 (.int .i64 a0)) 11 (.bool p18))) [] = some (X67_4 a0 p18 o) := by
  unfold m67_4 at h
  try simp -implicitDefEqProofs only [go_sem, Nat.reduceLT, Nat.reduceAdd, Nat.reduceSub, Nat.reduceMul, Nat.reduceEqDiff, Nat.reduceBEq, Nat.reduceLeDiff, Int.reduceToNat, Int.reduceLT, Int.reduceLE, Int.reduceEq, reduceCtorEq, ↓reduceIte, X67_4, k67_4]
  cases b19 : (p18 : Bool)
  · replace h := br_f b19 h
    cases h
    simp -implicitDefEqProofs only [go_sem, Nat.reduceLT, Nat.reduceAdd, Nat.reduceSub, Nat.reduceMul, Nat.reduceEqDiff, Nat.reduceBEq, Nat.reduceLeDiff, Int.reduceToNat, Int.reduceLT, Int.reduceLE, Int.reduceEq, reduceCtorEq, ↓reduceIte, X67_4, k67_4, b19]
  · replace h := br_t b19 h
    cases h
    simp -implicitDefEqProofs only [go_sem, Nat.reduceLT, Nat.reduceAdd, Nat.reduceSub, Nat.reduceMul, Nat.reduceEqDiff, Nat.reduceBEq, Nat.reduceLeDiff, Int.reduceToNat, Int.reduceLT, Int.reduceLE, Int.reduceEq, reduceCtorEq, ↓reduceIte, X67_4, k67_4, b19]
theorem e67 (a0 : Int) (r : Int) (h : m67 a0 = some r) : evFL T 67 [.int .i64 a0] [] = some (.int .i64 r, []) := by
  unfold m67 at h
  rw [evFL_at fn67 (Nat.le_of_ble_eq_true rfl) rfl (.inr rfl) ⟨rfl, rfl⟩]
  obtain ⟨v15, q13, h⟩ := bnd_some h
  have w14 := e67_1 a0 (eqI a0 1) v15 q13
  simp only [X67_1] at w14
  try simp -implicitDefEqProofs only [go_sem, Nat.reduceLT, Nat.reduceAdd, Nat.reduceSub, Nat.reduceMul, Nat.reduceEqDiff, Nat.reduceBEq, Nat.reduceLeDiff, Int.reduceToNat, Int.reduceLT, Int.reduceLE, Int.reduceEq, reduceCtorEq, ↓reduceIte] at w14
  try simp -implicitDefEqProofs only [go_sem, Nat.reduceLT, Nat.reduceAdd, Nat.reduceSub, Nat.reduceMul, Nat.reduceEqDiff, Nat.reduceBEq, Nat.reduceLeDiff, Int.reduceToNat, Int.reduceLT, Int.reduceLE, Int.reduceEq, reduceCtorEq, ↓reduceIte, i67, c67, w14]
  cases b16 : (v15 : Bool)
  · replace h := br_f b16 h
    try simp -implicitDefEqProofs only [go_sem, Nat.reduceLT, Nat.reduceAdd, Nat.reduceSub, Nat.reduceMul, Nat.reduceEqDiff, Nat.reduceBEq, Nat.reduceLeDiff, Int.reduceToNat, Int.reduceLT, Int.reduceLE, Int.reduceEq, reduceCtorEq, ↓reduceIte, i67, c67, w14, b16]
    cases b17 : (eqI a0 7 : Bool)
    · replace h := br_f b17 h
      obtain ⟨v22, q20, h⟩ := bnd_some h
      have w21 := e67_4 a0 (eqI a0 5) v22 q20
      simp only [X67_4] at w21
      try simp -implicitDefEqProofs only [go_sem, Nat.reduceLT, Nat.reduceAdd, Nat.reduceSub, Nat.reduceMul, Nat.reduceEqDiff, Nat.reduceBEq, Nat.reduceLeDiff, Int.reduceToNat, Int.reduceLT, Int.reduceLE, Int.reduceEq, reduceCtorEq, ↓reduceIte] at w21
      try simp -implicitDefEqProofs only [go_sem, Nat.reduceLT, Nat.reduceAdd, Nat.reduceSub, Nat.reduceMul, Nat.reduceEqDiff, Nat.reduceBEq, Nat.reduceLeDiff, Int.reduceToNat, Int.reduceLT, Int.reduceLE, Int.reduceEq, reduceCtorEq, ↓reduceIte, i67, c67, w14, b16, b17, w21]
      cases b23 : (v22 : Bool)
      · replace h := br_f b23 h
        cases h
        simp -implicitDefEqProofs only [go_sem, Nat.reduceLT, Nat.reduceAdd, Nat.reduceSub, Nat.reduceMul, Nat.reduceEqDiff, Nat.reduceBEq, Nat.reduceLeDiff, Int.reduceToNat, Int.reduceLT, Int.reduceLE, Int.reduceEq, reduceCtorEq, ↓reduceIte, i67, c67, w14, b16, b17, w21, b23]
      · replace h := br_t b23 h
        cases h
        simp -implicitDefEqProofs only [go_sem, Nat.reduceLT, Nat.reduceAdd, Nat.reduceSub, Nat.reduceMul, Nat.reduceEqDiff, Nat.reduceBEq, Nat.reduceLeDiff, Int.reduceToNat, Int.reduceLT, Int.reduceLE, Int.reduceEq, reduceCtorEq, ↓reduceIte, i67, c67, w14, b16, b17, w21, b23]
    · replace h := br_t b17 h
      cases h
      simp -implicitDefEqProofs only [go_sem, Nat.reduceLT, Nat.reduceAdd, Nat.reduceSub, Nat.reduceMul, Nat.reduceEqDiff, Nat.reduceBEq, Nat.reduceLeDiff, Int.reduceToNat, Int.reduceLT, Int.reduceLE, Int.reduceEq, reduceCtorEq, ↓reduceIte, i67, c67, w14, b16, b17]
  · replace h := br_t b16 h
    cases h
    simp -implicitDefEqProofs only [go_sem, Nat.reduceLT, Nat.reduceAdd, Nat.reduceSub, Nat.reduceMul, Nat.reduceEqDiff, Nat.reduceBEq, Nat.reduceLeDiff, Int.reduceToNat, Int.reduceLT, Int.reduceLE, Int.reduceEq, reduceCtorEq, ↓reduceIte, i67, c67, w14, b16]
end Go.Pi.Ytnogicfhdgpdjaa.DeriveBy
