/- What functions of the program answer, and that the law answers true at every input; no condition -/
import Derived.Test.YtnogicfhdgpdjaaMatchPathTabMatchPath
import Derived.Test.YtnogicfhdgpdjaaMatchPathModMatchPath
set_option linter.all false
/- Functions of the program: that the code answers as the plain functions do. -/
namespace Go.Pi.Ytnogicfhdgpdjaa.MatchPath
open Go Go.Proofs Go.Pi
set_option maxRecDepth 100000
set_option linter.all false
noncomputable def encInt (x : Int) : List AV := [.int .i64 x]
attribute [go_sem] encInt
theorem sq_encInt (q : Ql) (x : Int) : setQL q (encInt x) = encInt x := by simp [encInt]
theorem sqm_encInt (q : Ql) (xs : List Int) : setQLL q (xs.map encInt) = xs.map encInt := by rw [setQLL_map]; exact List.map_congr_left (fun x _ => sq_encInt q x)
theorem ow_encInt (x : Int) : ownOnlyL (encInt x) = true := by simp [encInt, ownOnlyL, ownOnly, ownLL_map]
theorem owm_encInt (xs : List Int) : ownOnlyLL (xs.map encInt) = true := ownLL_map _ ow_encInt xs
theorem fi_encInt (x : Int) : fine.fineL (encInt x) = true := by simp [encInt, fine.fineL, fine, fineLL_map]
theorem fim_encInt (xs : List Int) : fine.fineLL (xs.map encInt) = true := fineLL_map _ fi_encInt xs
theorem nu_encInt (x : Int) : nude.nudeL (encInt x) = true := by simp [encInt, nude.nudeL, nude, nudeLL_map]
theorem num_encInt (xs : List Int) : nude.nudeLL (xs.map encInt) = true := nudeLL_map _ nu_encInt xs
theorem st_encInt (q : Ql) (xs : List Int) : (xs.map encInt).map (fun x => x.map (setTop q)) = xs.map encInt := by rw [List.map_map]; rfl
attribute [go_sem] st_encInt
attribute [simp] sqm_encInt ow_encInt owm_encInt fi_encInt fim_encInt nu_encInt num_encInt
attribute [go_sem] sqm_encInt owm_encInt fim_encInt num_encInt
noncomputable def encReCell (x : ReCell) : List AV := [.int .i64 x.kind, .int .i64 x.n]
attribute [go_sem] encReCell
theorem sq_encReCell (q : Ql) (x : ReCell) : setQL q (encReCell x) = encReCell x := by simp [encReCell]
theorem sqm_encReCell (q : Ql) (xs : List ReCell) : setQLL q (xs.map encReCell) = xs.map encReCell := by rw [setQLL_map]; exact List.map_congr_left (fun x _ => sq_encReCell q x)
theorem ow_encReCell (x : ReCell) : ownOnlyL (encReCell x) = true := by simp [encReCell, ownOnlyL, ownOnly, ownLL_map]
theorem owm_encReCell (xs : List ReCell) : ownOnlyLL (xs.map encReCell) = true := ownLL_map _ ow_encReCell xs
theorem fi_encReCell (x : ReCell) : fine.fineL (encReCell x) = true := by simp [encReCell, fine.fineL, fine, fineLL_map]
theorem fim_encReCell (xs : List ReCell) : fine.fineLL (xs.map encReCell) = true := fineLL_map _ fi_encReCell xs
theorem nu_encReCell (x : ReCell) : nude.nudeL (encReCell x) = true := by simp [encReCell, nude.nudeL, nude, nudeLL_map]
theorem num_encReCell (xs : List ReCell) : nude.nudeLL (xs.map encReCell) = true := nudeLL_map _ nu_encReCell xs
theorem st_encReCell (q : Ql) (xs : List ReCell) : (xs.map encReCell).map (fun x => x.map (setTop q)) = xs.map encReCell := by rw [List.map_map]; rfl
attribute [go_sem] st_encReCell
attribute [simp] sqm_encReCell ow_encReCell owm_encReCell fi_encReCell fim_encReCell nu_encReCell num_encReCell
attribute [go_sem] sqm_encReCell owm_encReCell fim_encReCell num_encReCell
noncomputable def encLReCell (q : Ql) (x : (List ReCell)) : List AV := [.ts q 2 (x.map encReCell)]
attribute [go_sem] encLReCell
theorem sq_encLReCell (q q1 : Ql) (x : (List ReCell)) : setQL q (encLReCell q1 x) = encLReCell q x := by simp [encLReCell, sq_encReCell]
theorem sqm_encLReCell (q q1 : Ql) (xs : List (List ReCell)) : setQLL q (xs.map (encLReCell q1)) = xs.map (encLReCell q) := by rw [setQLL_map]; exact List.map_congr_left (fun x _ => sq_encLReCell q q1 x)
theorem ow_encLReCell (x : (List ReCell)) : ownOnlyL (encLReCell .own x) = true := by simp [encLReCell, ownOnlyL, ownOnly, ownLL_map]
theorem owm_encLReCell (xs : List (List ReCell)) : ownOnlyLL (xs.map (encLReCell .own)) = true := ownLL_map _ ow_encLReCell xs
theorem fi_encLReCell (x : (List ReCell)) : fine.fineL (encLReCell .own x) = true := by simp [encLReCell, fine.fineL, fine, fineLL_map]
theorem fim_encLReCell (xs : List (List ReCell)) : fine.fineLL (xs.map (encLReCell .own)) = true := fineLL_map _ fi_encLReCell xs
theorem nu_encLReCell (x : (List ReCell)) : nude.nudeL (encLReCell .own x) = true := by simp [encLReCell, nude.nudeL, nude, nudeLL_map]
theorem num_encLReCell (xs : List (List ReCell)) : nude.nudeLL (xs.map (encLReCell .own)) = true := nudeLL_map _ nu_encLReCell xs
theorem st_encLReCell (q q1 : Ql) (xs : List (List ReCell)) : (xs.map (encLReCell q1)).map (fun x => x.map (setTop q)) = xs.map (encLReCell q) := by rw [List.map_map]; rfl
theorem fii_encLReCell (xs : List (List ReCell)) : fine.fineLL (xs.map (encLReCell .imm)) = true := fineLL_map _ (fun x => by simp [encLReCell, fine.fineL, fine]) xs
attribute [go_sem] fii_encLReCell
attribute [go_sem] st_encLReCell
attribute [simp] sqm_encLReCell ow_encLReCell owm_encLReCell fi_encLReCell fim_encLReCell nu_encLReCell num_encLReCell
attribute [go_sem] sqm_encLReCell owm_encLReCell fim_encLReCell num_encLReCell
noncomputable def encLInt (q : Ql) (x : (List Int)) : List AV := [.ts q 1 (x.map encInt)]
attribute [go_sem] encLInt
theorem sq_encLInt (q q1 : Ql) (x : (List Int)) : setQL q (encLInt q1 x) = encLInt q x := by simp [encLInt, sq_encInt]
theorem sqm_encLInt (q q1 : Ql) (xs : List (List Int)) : setQLL q (xs.map (encLInt q1)) = xs.map (encLInt q) := by rw [setQLL_map]; exact List.map_congr_left (fun x _ => sq_encLInt q q1 x)
theorem ow_encLInt (x : (List Int)) : ownOnlyL (encLInt .own x) = true := by simp [encLInt, ownOnlyL, ownOnly, ownLL_map]
theorem owm_encLInt (xs : List (List Int)) : ownOnlyLL (xs.map (encLInt .own)) = true := ownLL_map _ ow_encLInt xs
theorem fi_encLInt (x : (List Int)) : fine.fineL (encLInt .own x) = true := by simp [encLInt, fine.fineL, fine, fineLL_map]
theorem fim_encLInt (xs : List (List Int)) : fine.fineLL (xs.map (encLInt .own)) = true := fineLL_map _ fi_encLInt xs
theorem nu_encLInt (x : (List Int)) : nude.nudeL (encLInt .own x) = true := by simp [encLInt, nude.nudeL, nude, nudeLL_map]
theorem num_encLInt (xs : List (List Int)) : nude.nudeLL (xs.map (encLInt .own)) = true := nudeLL_map _ nu_encLInt xs
theorem st_encLInt (q q1 : Ql) (xs : List (List Int)) : (xs.map (encLInt q1)).map (fun x => x.map (setTop q)) = xs.map (encLInt q) := by rw [List.map_map]; rfl
theorem fii_encLInt (xs : List (List Int)) : fine.fineLL (xs.map (encLInt .imm)) = true := fineLL_map _ (fun x => by simp [encLInt, fine.fineL, fine]) xs
attribute [go_sem] fii_encLInt
attribute [go_sem] st_encLInt
attribute [simp] sqm_encLInt ow_encLInt owm_encLInt fi_encLInt fim_encLInt nu_encLInt num_encLInt
attribute [go_sem] sqm_encLInt owm_encLInt fim_encLInt num_encLInt
noncomputable def encBool (x : Bool) : List AV := [.bool x]
attribute [go_sem] encBool
theorem sq_encBool (q : Ql) (x : Bool) : setQL q (encBool x) = encBool x := by simp [encBool]
theorem sqm_encBool (q : Ql) (xs : List Bool) : setQLL q (xs.map encBool) = xs.map encBool := by rw [setQLL_map]; exact List.map_congr_left (fun x _ => sq_encBool q x)
theorem ow_encBool (x : Bool) : ownOnlyL (encBool x) = true := by simp [encBool, ownOnlyL, ownOnly, ownLL_map]
theorem owm_encBool (xs : List Bool) : ownOnlyLL (xs.map encBool) = true := ownLL_map _ ow_encBool xs
theorem fi_encBool (x : Bool) : fine.fineL (encBool x) = true := by simp [encBool, fine.fineL, fine, fineLL_map]
theorem fim_encBool (xs : List Bool) : fine.fineLL (xs.map encBool) = true := fineLL_map _ fi_encBool xs
theorem nu_encBool (x : Bool) : nude.nudeL (encBool x) = true := by simp [encBool, nude.nudeL, nude, nudeLL_map]
theorem num_encBool (xs : List Bool) : nude.nudeLL (xs.map encBool) = true := nudeLL_map _ nu_encBool xs
theorem st_encBool (q : Ql) (xs : List Bool) : (xs.map encBool).map (fun x => x.map (setTop q)) = xs.map encBool := by rw [List.map_map]; rfl
attribute [go_sem] st_encBool
attribute [simp] sqm_encBool ow_encBool owm_encBool fi_encBool fim_encBool nu_encBool num_encBool
attribute [go_sem] sqm_encBool owm_encBool fim_encBool num_encBool
noncomputable def encl6T (q : Ql) (x : l6T) : List AV := l6T.rec (motive_1 := fun _ => List AV) (motive_2 := fun _ => List (List AV)) (fun kind_ n_ kids_ h_kids_ => [AV.int .i64 kind_, AV.int .i64 n_, AV.ts q 3 h_kids_]) [] (fun _ _ h1 h2 => h1 :: h2) x
theorem encml6T (q : Ql) (xs : List l6T) : l6T.rec_1 (motive_1 := fun _ => List AV) (motive_2 := fun _ => List (List AV)) (fun kind_ n_ kids_ h_kids_ => [AV.int .i64 kind_, AV.int .i64 n_, AV.ts q 3 h_kids_]) [] (fun _ _ h1 h2 => h1 :: h2) xs = xs.map (encl6T q) := by
  induction xs with
  | nil => rfl
  | cons x r ih => rw [List.map_cons, ← ih]; rfl
theorem encel6T (q : Ql) (kind_ : Int) (n_ : Int) (kids_ : (List l6T)) : encl6T q (.mk kind_ n_ kids_) = [AV.int .i64 kind_, AV.int .i64 n_, AV.ts q 3 (kids_.map (encl6T q))] := by
  show [AV.int .i64 kind_, AV.int .i64 n_, AV.ts q 3 (l6T.rec_1 (motive_1 := fun _ => List AV) (motive_2 := fun _ => List (List AV)) (fun kind_ n_ kids_ h_kids_ => [AV.int .i64 kind_, AV.int .i64 n_, AV.ts q 3 h_kids_]) [] (fun _ _ h1 h2 => h1 :: h2) kids_)] = _
  rw [encml6T]
theorem encxl6T (q : Ql) (x : l6T) : encl6T q x = [AV.int .i64 x.kind_, AV.int .i64 x.n_, AV.ts q 3 (x.kids_.map (encl6T q))] := by cases x; exact encel6T q _ _ _
theorem l6T.kind__mk (kind_ : Int) (n_ : Int) (kids_ : (List l6T)) : (l6T.mk kind_ n_ kids_).kind_ = kind_ := rfl
theorem l6T.n__mk (kind_ : Int) (n_ : Int) (kids_ : (List l6T)) : (l6T.mk kind_ n_ kids_).n_ = n_ := rfl
theorem l6T.kids__mk (kind_ : Int) (n_ : Int) (kids_ : (List l6T)) : (l6T.mk kind_ n_ kids_).kids_ = kids_ := rfl
attribute [go_sem] encxl6T l6T.kind__mk l6T.n__mk l6T.kids__mk
theorem sq_encl6T' : ∀ x : l6T, ∀ q q1 : Ql, setQL q (encl6T q1 x) = encl6T q x := by
  intro x
  refine l6T.rec (motive_1 := fun x => ∀ q q1 : Ql, setQL q (encl6T q1 x) = encl6T q x) (motive_2 := fun x => ∀ q q1 : Ql, setQLL q (x.map (encl6T q1)) = x.map (encl6T q)) ?_ ?_ ?_ x
  · intro kind_ n_ kids_ h_kids_; intro q q1; rw [encel6T, encel6T]; simp [h_kids_]
  · intro q q1; rfl
  · intro x r h1 h2; intro q q1; rw [List.map_cons, List.map_cons, gll_cons, h1, h2]
theorem sq_encl6T (q q1 : Ql) (x : l6T) : setQL q (encl6T q1 x) = encl6T q x := sq_encl6T' x q q1
theorem sqm_encl6T (q q1 : Ql) (xs : List l6T) : setQLL q (xs.map (encl6T q1)) = xs.map (encl6T q) := by rw [setQLL_map]; exact List.map_congr_left (fun x _ => sq_encl6T q q1 x)
theorem ow_encl6T : ∀ x : l6T, ownOnlyL (encl6T .own x) = true := by
  intro x
  refine l6T.rec (motive_1 := fun x => ownOnlyL (encl6T .own x) = true) (motive_2 := fun x => ownOnlyLL (x.map (encl6T .own)) = true) ?_ ?_ ?_ x
  · intro kind_ n_ kids_ h_kids_; rw [encel6T]; simp [ownOnlyL, ownOnly, h_kids_]
  · rfl
  · intro x r h1 h2; rw [List.map_cons]; simp [ownOnlyLL, h1, h2]
theorem owm_encl6T (xs : List l6T) : ownOnlyLL (xs.map (encl6T .own)) = true := ownLL_map _ ow_encl6T xs
theorem fi_encl6T : ∀ x : l6T, fine.fineL (encl6T .own x) = true := by
  intro x
  refine l6T.rec (motive_1 := fun x => fine.fineL (encl6T .own x) = true) (motive_2 := fun x => fine.fineLL (x.map (encl6T .own)) = true) ?_ ?_ ?_ x
  · intro kind_ n_ kids_ h_kids_; rw [encel6T]; simp [fine.fineL, fine, h_kids_]
  · rfl
  · intro x r h1 h2; rw [List.map_cons]; simp [fine.fineLL, h1, h2]
theorem fim_encl6T (xs : List l6T) : fine.fineLL (xs.map (encl6T .own)) = true := fineLL_map _ fi_encl6T xs
theorem nu_encl6T : ∀ x : l6T, nude.nudeL (encl6T .own x) = true := by
  intro x
  refine l6T.rec (motive_1 := fun x => nude.nudeL (encl6T .own x) = true) (motive_2 := fun x => nude.nudeLL (x.map (encl6T .own)) = true) ?_ ?_ ?_ x
  · intro kind_ n_ kids_ h_kids_; rw [encel6T]; simp [nude.nudeL, nude, h_kids_]
  · rfl
  · intro x r h1 h2; rw [List.map_cons]; simp [nude.nudeLL, h1, h2]
theorem num_encl6T (xs : List l6T) : nude.nudeLL (xs.map (encl6T .own)) = true := nudeLL_map _ nu_encl6T xs
attribute [simp] sqm_encl6T ow_encl6T owm_encl6T fi_encl6T fim_encl6T nu_encl6T num_encl6T
theorem fii_encl6T (xs : List l6T) : fine.fineLL (xs.map (encl6T .imm)) = true := fineLL_map _ (fun x => by rw [encxl6T]; simp [fine.fineL, fine]) xs
attribute [go_sem] sqm_encl6T owm_encl6T fim_encl6T num_encl6T fii_encl6T
noncomputable def encLl6T (q : Ql) (x : (List l6T)) : List AV := [.ts q 3 (x.map (encl6T q))]
attribute [go_sem] encLl6T
theorem sq_encLl6T (q q1 : Ql) (x : (List l6T)) : setQL q (encLl6T q1 x) = encLl6T q x := by simp [encLl6T, sq_encl6T]
theorem sqm_encLl6T (q q1 : Ql) (xs : List (List l6T)) : setQLL q (xs.map (encLl6T q1)) = xs.map (encLl6T q) := by rw [setQLL_map]; exact List.map_congr_left (fun x _ => sq_encLl6T q q1 x)
theorem ow_encLl6T (x : (List l6T)) : ownOnlyL (encLl6T .own x) = true := by simp [encLl6T, ownOnlyL, ownOnly, ownLL_map]
theorem owm_encLl6T (xs : List (List l6T)) : ownOnlyLL (xs.map (encLl6T .own)) = true := ownLL_map _ ow_encLl6T xs
theorem fi_encLl6T (x : (List l6T)) : fine.fineL (encLl6T .own x) = true := by simp [encLl6T, fine.fineL, fine, fineLL_map]
theorem fim_encLl6T (xs : List (List l6T)) : fine.fineLL (xs.map (encLl6T .own)) = true := fineLL_map _ fi_encLl6T xs
theorem nu_encLl6T (x : (List l6T)) : nude.nudeL (encLl6T .own x) = true := by simp [encLl6T, nude.nudeL, nude, nudeLL_map]
theorem num_encLl6T (xs : List (List l6T)) : nude.nudeLL (xs.map (encLl6T .own)) = true := nudeLL_map _ nu_encLl6T xs
theorem fii_encLl6T (xs : List (List l6T)) : fine.fineLL (xs.map (encLl6T .imm)) = true := fineLL_map _ (fun x => by simp [encLl6T, fine.fineL, fine]) xs
attribute [go_sem] fii_encLl6T
attribute [simp] sqm_encLl6T ow_encLl6T owm_encLl6T fi_encLl6T fim_encLl6T nu_encLl6T num_encLl6T
attribute [go_sem] sqm_encLl6T owm_encLl6T fim_encLl6T num_encLl6T
noncomputable def encpattern (q : Ql) (x : pattern) : List AV := pattern.rec (motive_1 := fun _ => List AV) (motive_2 := fun _ => List (List AV)) (fun cell parts h_parts => [AV.int .i64 cell.kind, AV.int .i64 cell.n, AV.ts q 1 h_parts]) [] (fun _ _ h1 h2 => [AV.tp q 3 [h1] 0 0] :: h2) x
noncomputable def encPpattern (q : Ql) (x : pattern) : List AV := [.tp q 3 [encpattern q x] 0 0]
theorem encmpattern (q : Ql) (xs : List pattern) : pattern.rec_1 (motive_1 := fun _ => List AV) (motive_2 := fun _ => List (List AV)) (fun cell parts h_parts => [AV.int .i64 cell.kind, AV.int .i64 cell.n, AV.ts q 1 h_parts]) [] (fun _ _ h1 h2 => [AV.tp q 3 [h1] 0 0] :: h2) xs = xs.map (encPpattern q) := by
  induction xs with
  | nil => rfl
  | cons x r ih => rw [List.map_cons, ← ih]; rfl
theorem encxpattern (q : Ql) (x : pattern) : encpattern q x = [AV.int .i64 x.cell.kind, AV.int .i64 x.cell.n, AV.ts q 1 (x.parts.map (encPpattern q))] := by
  cases x with
  | mk cell parts => show [AV.int .i64 cell.kind, AV.int .i64 cell.n, AV.ts q 1 (pattern.rec_1 (motive_1 := fun _ => List AV) (motive_2 := fun _ => List (List AV)) (fun cell parts h_parts => [AV.int .i64 cell.kind, AV.int .i64 cell.n, AV.ts q 1 h_parts]) [] (fun _ _ h1 h2 => [AV.tp q 3 [h1] 0 0] :: h2) parts)] = _; rw [encmpattern]; rfl
theorem pattern.cell_mk (cell : ReCell) (parts : (List pattern)) : (pattern.mk cell parts).cell = cell := rfl
theorem pattern.parts_mk (cell : ReCell) (parts : (List pattern)) : (pattern.mk cell parts).parts = parts := rfl
attribute [go_sem] encxpattern pattern.cell_mk pattern.parts_mk
theorem sq_encpattern' : ∀ x : pattern, ∀ q q1 : Ql, setQL q (encpattern q1 x) = encpattern q x := by
  intro x
  refine pattern.rec (motive_1 := fun x => ∀ q q1 : Ql, setQL q (encpattern q1 x) = encpattern q x) (motive_2 := fun xs => ∀ q q1 : Ql, setQLL q (xs.map (encPpattern q1)) = xs.map (encPpattern q)) ?_ ?_ ?_ x
  · intro cell parts h_parts q q1; rw [encxpattern, encxpattern]; simp [h_parts, pattern.cell_mk, pattern.parts_mk]
  · intro q q1; rfl
  · intro x r h1 h2 q q1; rw [List.map_cons, List.map_cons, gll_cons, h2]; congr 1; simp only [encPpattern]; rw [setQL_cons, setQ_tp', gll_cons, h1]; rfl
theorem sq_encpattern (q q1 : Ql) (x : pattern) : setQL q (encpattern q1 x) = encpattern q x := sq_encpattern' x q q1
theorem sq1_encpattern (q q1 : Ql) (x : pattern) : setQLL q [encpattern q1 x] = [encpattern q x] := by rw [gll_cons, sq_encpattern]; rfl
attribute [go_sem] sq_encpattern sq1_encpattern
attribute [go_sem] encPpattern
theorem sq_encPpattern (q q1 : Ql) (x : pattern) : setQL q (encPpattern q1 x) = encPpattern q x := by simp only [encPpattern]; rw [setQL_cons, setQ_tp', gll_cons, sq_encpattern]; rfl
theorem sqm_encPpattern (q q1 : Ql) (xs : List pattern) : setQLL q (xs.map (encPpattern q1)) = xs.map (encPpattern q) := by rw [setQLL_map]; exact List.map_congr_left (fun x _ => sq_encPpattern q q1 x)
theorem fii_encPpattern (xs : List pattern) : fine.fineLL (xs.map (encPpattern .imm)) = true := fineLL_map _ (fun x => by simp [encPpattern, fine.fineL, fine]) xs
attribute [simp] sqm_encPpattern
attribute [go_sem] sqm_encPpattern fii_encPpattern
noncomputable def encLPpattern (q : Ql) (x : (List pattern)) : List AV := [.ts q 1 (x.map (encPpattern q))]
attribute [go_sem] encLPpattern
theorem sq_encLPpattern (q q1 : Ql) (x : (List pattern)) : setQL q (encLPpattern q1 x) = encLPpattern q x := by simp [encLPpattern, sq_encPpattern]
theorem sqm_encLPpattern (q q1 : Ql) (xs : List (List pattern)) : setQLL q (xs.map (encLPpattern q1)) = xs.map (encLPpattern q) := by rw [setQLL_map]; exact List.map_congr_left (fun x _ => sq_encLPpattern q q1 x)
attribute [simp] sqm_encLPpattern
attribute [go_sem] sqm_encLPpattern
-- f6 laws.szReCellS
theorem call6 (args : List AV) (S : St) : evCall T (evFL T) 6 args S = lendC (evFL T 6) S (lendAll S [[2], [0]] args) := evCall0 fn6 rfl rfl rfl args S
theorem callz6 (args : List AV) (S : St) : evCallFz T (evFL T) 6 args S = lendZ (evFL T 6) S [[0]] (lendAll S [[2], [0]] args) := evCallFz0 fn6 rfl rfl rfl args S
attribute [go_sem] call6 callz6
theorem e6 (a0 : (List ReCell)) (a1 : Int) (r : Int) (h : m6 a0 a1 = some r) : evFL T 6 [.ts .imm 2 (a0.map encReCell), .int .i64 a1] [] = some (.int .i64 r, []) := by
  unfold m6 at h
  rw [evFL_at fn6 (Nat.le_of_ble_eq_true rfl) rfl (.inr rfl) ⟨rfl, rfl⟩]
  try simp -implicitDefEqProofs only [go_sem, Nat.reduceLT, Nat.reduceAdd, Nat.reduceSub, Nat.reduceMul, Nat.reduceEqDiff, Nat.reduceBEq, Nat.reduceLeDiff, Int.reduceToNat, Int.reduceLT, Int.reduceLE, Int.reduceEq, reduceCtorEq, ↓reduceIte, i6, c6]
  cases b1 : (ltI (wsub .i64 a1 (↑a0.length : Int)) 0 : Bool)
  · replace h := br_f b1 h
    cases h
    simp -implicitDefEqProofs only [go_sem, Nat.reduceLT, Nat.reduceAdd, Nat.reduceSub, Nat.reduceMul, Nat.reduceEqDiff, Nat.reduceBEq, Nat.reduceLeDiff, Int.reduceToNat, Int.reduceLT, Int.reduceLE, Int.reduceEq, reduceCtorEq, ↓reduceIte, i6, c6, b1]
  · replace h := br_t b1 h
    cases h
    simp -implicitDefEqProofs only [go_sem, Nat.reduceLT, Nat.reduceAdd, Nat.reduceSub, Nat.reduceMul, Nat.reduceEqDiff, Nat.reduceBEq, Nat.reduceLeDiff, Int.reduceToNat, Int.reduceLT, Int.reduceLE, Int.reduceEq, reduceCtorEq, ↓reduceIte, i6, c6, b1]
-- f32 laws.toReCell
theorem call32 (args : List AV) (S : St) : evCall T (evFL T) 32 args S = lendC (evFL T 32) S (lendAll S [[0, 0]] args) := evCall0 fn32 rfl rfl rfl args S
theorem callz32 (args : List AV) (S : St) : evCallFz T (evFL T) 32 args S = lendZ (evFL T 32) S [[0, 0]] (lendAll S [[0, 0]] args) := evCallFz0 fn32 rfl rfl rfl args S
attribute [go_sem] call32 callz32
theorem e32 (a0 : ReCell) (r : ReCell) (h : m32 a0 = some r) : evFL T 32 [.agg [.int .i64 a0.kind, .int .i64 a0.n]] [] = some (.agg [.int .i64 r.kind, .int .i64 r.n], []) := by
  unfold m32 at h
  rw [evFL_at fn32 (Nat.le_of_ble_eq_true rfl) rfl (.inr rfl) ⟨rfl, rfl⟩]
  cases h
  simp -implicitDefEqProofs only [go_sem, Nat.reduceLT, Nat.reduceAdd, Nat.reduceSub, Nat.reduceMul, Nat.reduceEqDiff, Nat.reduceBEq, Nat.reduceLeDiff, Int.reduceToNat, Int.reduceLT, Int.reduceLE, Int.reduceEq, reduceCtorEq, ↓reduceIte, i32, c32]
-- f8 laws.toReCellS
theorem call8 (args : List AV) (S : St) : evCall T (evFL T) 8 args S = lendC (evFL T 8) S (lendAll S [[2]] args) := evCall0 fn8 rfl rfl rfl args S
theorem callz8 (args : List AV) (S : St) : evCallFz T (evFL T) 8 args S = lendZ (evFL T 8) S [[2]] (lendAll S [[2]] args) := evCallFz0 fn8 rfl rfl rfl args S
attribute [go_sem] call8 callz8
noncomputable def X8_1 (a0 : (List ReCell)) (o : (List ReCell)) : Ex × Fr × St :=
  (.exit 0, frOf 23 (upd anyF 3 (.sl 0 0 o.length)), [some ⟨.arr, 2, o.map encReCell⟩])
noncomputable def E8_1 (a0 : (List ReCell)) (s : (Int × List ReCell)) : Fr × St := (frOf 23 (upd (upd (upd anyF 0 (.ts .imm 2 (a0.map encReCell))) 3 (.sl 0 0 s.2.length)) 4 (.int .i64 s.1)), [some ⟨.arr, 2, s.2.map encReCell⟩])
theorem b8_1 (a0 : (List ReCell)) (s : (Int × List ReCell)) (o : Ctl (Int × List ReCell) (List ReCell)) (h : m8_1b a0 s = some o) : evCL T 0 k8_1b (E8_1 a0 s).1 (E8_1 a0 s).2 = some (ctlX (E8_1 a0) (X8_1 a0) o) := by
  unfold m8_1b at h
  obtain ⟨s17, s18⟩ := s
  replace h := sel2_some h
  try simp -implicitDefEqProofs only [go_sem, Nat.reduceLT, Nat.reduceAdd, Nat.reduceSub, Nat.reduceMul, Nat.reduceEqDiff, Nat.reduceBEq, Nat.reduceLeDiff, Int.reduceToNat, Int.reduceLT, Int.reduceLE, Int.reduceEq, reduceCtorEq, ↓reduceIte, E8_1, X8_1, k8_1b]
  cases b19 : (ltI s17 (↑a0.length : Int) : Bool)
  · replace h := br_f b19 h
    cases h
    simp -implicitDefEqProofs only [go_sem, Nat.reduceLT, Nat.reduceAdd, Nat.reduceSub, Nat.reduceMul, Nat.reduceEqDiff, Nat.reduceBEq, Nat.reduceLeDiff, Int.reduceToNat, Int.reduceLT, Int.reduceLE, Int.reduceEq, reduceCtorEq, ↓reduceIte, E8_1, X8_1, k8_1b, b19]
  · replace h := br_t b19 h
    obtain ⟨x20, q21, h⟩ := bnd_some h
    obtain ⟨g22, g23, g24⟩ := idx_row encReCell q21
    try simp -implicitDefEqProofs only [go_sem, Nat.reduceLT, Nat.reduceAdd, Nat.reduceSub, Nat.reduceMul, Nat.reduceEqDiff, Nat.reduceBEq, Nat.reduceLeDiff, Int.reduceToNat, Int.reduceLT, Int.reduceLE, Int.reduceEq, reduceCtorEq, ↓reduceIte] at g23
    try simp -implicitDefEqProofs only [go_sem, Nat.reduceLT, Nat.reduceAdd, Nat.reduceSub, Nat.reduceMul, Nat.reduceEqDiff, Nat.reduceBEq, Nat.reduceLeDiff, Int.reduceToNat, Int.reduceLT, Int.reduceLE, Int.reduceEq, reduceCtorEq, ↓reduceIte] at g24
    obtain ⟨r27, q25, h⟩ := bnd_some h
    have w26 := e32 x20 r27 q25
    try simp -implicitDefEqProofs only [go_sem, Nat.reduceLT, Nat.reduceAdd, Nat.reduceSub, Nat.reduceMul, Nat.reduceEqDiff, Nat.reduceBEq, Nat.reduceLeDiff, Int.reduceToNat, Int.reduceLT, Int.reduceLE, Int.reduceEq, reduceCtorEq, ↓reduceIte] at w26
    obtain ⟨x28, q29, h⟩ := bnd_some h
    obtain ⟨g30, g31, g32⟩ := idx_row encReCell q29
    try simp -implicitDefEqProofs only [go_sem, Nat.reduceLT, Nat.reduceAdd, Nat.reduceSub, Nat.reduceMul, Nat.reduceEqDiff, Nat.reduceBEq, Nat.reduceLeDiff, Int.reduceToNat, Int.reduceLT, Int.reduceLE, Int.reduceEq, reduceCtorEq, ↓reduceIte] at g31
    try simp -implicitDefEqProofs only [go_sem, Nat.reduceLT, Nat.reduceAdd, Nat.reduceSub, Nat.reduceMul, Nat.reduceEqDiff, Nat.reduceBEq, Nat.reduceLeDiff, Int.reduceToNat, Int.reduceLT, Int.reduceLE, Int.reduceEq, reduceCtorEq, ↓reduceIte] at g32
    cases h
    simp -implicitDefEqProofs only [go_sem, Nat.reduceLT, Nat.reduceAdd, Nat.reduceSub, Nat.reduceMul, Nat.reduceEqDiff, Nat.reduceBEq, Nat.reduceLeDiff, Int.reduceToNat, Int.reduceLT, Int.reduceLE, Int.reduceEq, reduceCtorEq, ↓reduceIte, E8_1, X8_1, k8_1b, b19, g22, g23, g24, w26, g30, g31, g32]
theorem e8_1 (a0 : (List ReCell)) (s : (Int × List ReCell)) (o : (List ReCell)) (h : loopP (m8_1b a0) s = some o) : evCL T 0 (.loop k8_1b) (E8_1 a0 s).1 (E8_1 a0 s).2 = some (X8_1 a0 o) :=
  loop_walk (E := E8_1 a0) (X := X8_1 a0) (by intro b; (simp only [X8_1]; nofun)) (b8_1 a0) s o h
theorem e8 (a0 : (List ReCell)) (r : (List ReCell)) (h : m8 a0 = some r) : evFL T 8 [.ts .imm 2 (a0.map encReCell)] [] = some (.sl 0 0 r.length, [some ⟨.arr, 2, r.map encReCell⟩]) := by
  unfold m8 at h
  rw [evFL_at fn8 (Nat.le_of_ble_eq_true rfl) rfl (.inr rfl) ⟨rfl, rfl⟩]
  obtain ⟨g1, h⟩ := ck_some h
  try simp -implicitDefEqProofs only [go_sem, Nat.reduceLT, Nat.reduceAdd, Nat.reduceSub, Nat.reduceMul, Nat.reduceEqDiff, Nat.reduceBEq, Nat.reduceLeDiff, Int.reduceToNat, Int.reduceLT, Int.reduceLE, Int.reduceEq, reduceCtorEq, ↓reduceIte] at g1
  obtain ⟨v35, q33, h⟩ := bnd_some h
  have w34 := e8_1 a0 (0, List.replicate a0.length (⟨0, 0⟩ : ReCell)) v35 q33
  simp only [E8_1, X8_1] at w34
  try simp -implicitDefEqProofs only [go_sem, Nat.reduceLT, Nat.reduceAdd, Nat.reduceSub, Nat.reduceMul, Nat.reduceEqDiff, Nat.reduceBEq, Nat.reduceLeDiff, Int.reduceToNat, Int.reduceLT, Int.reduceLE, Int.reduceEq, reduceCtorEq, ↓reduceIte] at w34
  cases h
  simp -implicitDefEqProofs only [go_sem, Nat.reduceLT, Nat.reduceAdd, Nat.reduceSub, Nat.reduceMul, Nat.reduceEqDiff, Nat.reduceBEq, Nat.reduceLeDiff, Int.reduceToNat, Int.reduceLT, Int.reduceLE, Int.reduceEq, reduceCtorEq, ↓reduceIte, i8, c8, g1, w34]
-- f9 laws.toIntS
theorem call9 (args : List AV) (S : St) : evCall T (evFL T) 9 args S = lendC (evFL T 9) S (lendAll S [[1]] args) := evCall0 fn9 rfl rfl rfl args S
theorem callz9 (args : List AV) (S : St) : evCallFz T (evFL T) 9 args S = lendZ (evFL T 9) S [[1]] (lendAll S [[1]] args) := evCallFz0 fn9 rfl rfl rfl args S
attribute [go_sem] call9 callz9
noncomputable def X9_1 (a0 : (List Int)) (o : (List Int)) : Ex × Fr × St :=
  (.exit 0, frOf 22 (upd anyF 3 (.sl 0 0 o.length)), [some ⟨.arr, 1, o.map encInt⟩])
noncomputable def E9_1 (a0 : (List Int)) (s : (Int × List Int)) : Fr × St := (frOf 22 (upd (upd (upd anyF 0 (.ts .imm 1 (a0.map encInt))) 3 (.sl 0 0 s.2.length)) 4 (.int .i64 s.1)), [some ⟨.arr, 1, s.2.map encInt⟩])
theorem b9_1 (a0 : (List Int)) (s : (Int × List Int)) (o : Ctl (Int × List Int) (List Int)) (h : m9_1b a0 s = some o) : evCL T 0 k9_1b (E9_1 a0 s).1 (E9_1 a0 s).2 = some (ctlX (E9_1 a0) (X9_1 a0) o) := by
  unfold m9_1b at h
  obtain ⟨s14, s15⟩ := s
  replace h := sel2_some h
  try simp -implicitDefEqProofs only [go_sem, Nat.reduceLT, Nat.reduceAdd, Nat.reduceSub, Nat.reduceMul, Nat.reduceEqDiff, Nat.reduceBEq, Nat.reduceLeDiff, Int.reduceToNat, Int.reduceLT, Int.reduceLE, Int.reduceEq, reduceCtorEq, ↓reduceIte, E9_1, X9_1, k9_1b]
  cases b16 : (ltI s14 (↑a0.length : Int) : Bool)
  · replace h := br_f b16 h
    cases h
    simp -implicitDefEqProofs only [go_sem, Nat.reduceLT, Nat.reduceAdd, Nat.reduceSub, Nat.reduceMul, Nat.reduceEqDiff, Nat.reduceBEq, Nat.reduceLeDiff, Int.reduceToNat, Int.reduceLT, Int.reduceLE, Int.reduceEq, reduceCtorEq, ↓reduceIte, E9_1, X9_1, k9_1b, b16]
  · replace h := br_t b16 h
    obtain ⟨x17, q18, h⟩ := bnd_some h
    obtain ⟨g19, g20, g21⟩ := idx_row encInt q18
    try simp -implicitDefEqProofs only [go_sem, Nat.reduceLT, Nat.reduceAdd, Nat.reduceSub, Nat.reduceMul, Nat.reduceEqDiff, Nat.reduceBEq, Nat.reduceLeDiff, Int.reduceToNat, Int.reduceLT, Int.reduceLE, Int.reduceEq, reduceCtorEq, ↓reduceIte] at g20
    try simp -implicitDefEqProofs only [go_sem, Nat.reduceLT, Nat.reduceAdd, Nat.reduceSub, Nat.reduceMul, Nat.reduceEqDiff, Nat.reduceBEq, Nat.reduceLeDiff, Int.reduceToNat, Int.reduceLT, Int.reduceLE, Int.reduceEq, reduceCtorEq, ↓reduceIte] at g21
    obtain ⟨x22, q23, h⟩ := bnd_some h
    obtain ⟨g24, g25, g26⟩ := idx_row encInt q23
    try simp -implicitDefEqProofs only [go_sem, Nat.reduceLT, Nat.reduceAdd, Nat.reduceSub, Nat.reduceMul, Nat.reduceEqDiff, Nat.reduceBEq, Nat.reduceLeDiff, Int.reduceToNat, Int.reduceLT, Int.reduceLE, Int.reduceEq, reduceCtorEq, ↓reduceIte] at g25
    try simp -implicitDefEqProofs only [go_sem, Nat.reduceLT, Nat.reduceAdd, Nat.reduceSub, Nat.reduceMul, Nat.reduceEqDiff, Nat.reduceBEq, Nat.reduceLeDiff, Int.reduceToNat, Int.reduceLT, Int.reduceLE, Int.reduceEq, reduceCtorEq, ↓reduceIte] at g26
    cases h
    simp -implicitDefEqProofs only [go_sem, Nat.reduceLT, Nat.reduceAdd, Nat.reduceSub, Nat.reduceMul, Nat.reduceEqDiff, Nat.reduceBEq, Nat.reduceLeDiff, Int.reduceToNat, Int.reduceLT, Int.reduceLE, Int.reduceEq, reduceCtorEq, ↓reduceIte, E9_1, X9_1, k9_1b, b16, g19, g20, g21, g24, g25, g26]
theorem e9_1 (a0 : (List Int)) (s : (Int × List Int)) (o : (List Int)) (h : loopP (m9_1b a0) s = some o) : evCL T 0 (.loop k9_1b) (E9_1 a0 s).1 (E9_1 a0 s).2 = some (X9_1 a0 o) :=
  loop_walk (E := E9_1 a0) (X := X9_1 a0) (by intro b; (simp only [X9_1]; nofun)) (b9_1 a0) s o h
theorem e9 (a0 : (List Int)) (r : (List Int)) (h : m9 a0 = some r) : evFL T 9 [.ts .imm 1 (a0.map encInt)] [] = some (.sl 0 0 r.length, [some ⟨.arr, 1, r.map encInt⟩]) := by
  unfold m9 at h
  rw [evFL_at fn9 (Nat.le_of_ble_eq_true rfl) rfl (.inr rfl) ⟨rfl, rfl⟩]
  obtain ⟨g1, h⟩ := ck_some h
  try simp -implicitDefEqProofs only [go_sem, Nat.reduceLT, Nat.reduceAdd, Nat.reduceSub, Nat.reduceMul, Nat.reduceEqDiff, Nat.reduceBEq, Nat.reduceLeDiff, Int.reduceToNat, Int.reduceLT, Int.reduceLE, Int.reduceEq, reduceCtorEq, ↓reduceIte] at g1
  obtain ⟨v29, q27, h⟩ := bnd_some h
  have w28 := e9_1 a0 (0, List.replicate a0.length 0) v29 q27
  simp only [E9_1, X9_1] at w28
  try simp -implicitDefEqProofs only [go_sem, Nat.reduceLT, Nat.reduceAdd, Nat.reduceSub, Nat.reduceMul, Nat.reduceEqDiff, Nat.reduceBEq, Nat.reduceLeDiff, Int.reduceToNat, Int.reduceLT, Int.reduceLE, Int.reduceEq, reduceCtorEq, ↓reduceIte] at w28
  cases h
  simp -implicitDefEqProofs only [go_sem, Nat.reduceLT, Nat.reduceAdd, Nat.reduceSub, Nat.reduceMul, Nat.reduceEqDiff, Nat.reduceBEq, Nat.reduceLeDiff, Int.reduceToNat, Int.reduceLT, Int.reduceLE, Int.reduceEq, reduceCtorEq, ↓reduceIte, i9, c9, g1, w28]
-- f78 spec.l6Arity
theorem call78 (args : List AV) (S : St) : evCall T (evFL T) 78 args S = lendC (evFL T 78) S (lendAll S [[0]] args) := evCall0 fn78 rfl rfl rfl args S
theorem callz78 (args : List AV) (S : St) : evCallFz T (evFL T) 78 args S = lendZ (evFL T 78) S [[0]] (lendAll S [[0]] args) := evCallFz0 fn78 rfl rfl rfl args S
attribute [go_sem] call78 callz78
noncomputable def X78_3 (a0 : Int) (p5 : Bool) (o : Bool) : Ex × Fr × St :=
  (.normal, frOf 14 (upd (upd anyF 3 (.int .i64 a0)) 4 (.bool o)), [])
theorem e78_3 (a0 : Int) (p5 : Bool) (o : Bool) (h : m78_3 a0 p5 = some o) : evCL T 0 k78_3 (frOf 14 (upd (upd anyF 3 (.int .i64 a0)) 4 (.bool p5))) [] = some (X78_3 a0 p5 o) := by
  unfold m78_3 at h
  try simp -implicitDefEqProofs only [go_sem, Nat.reduceLT, Nat.reduceAdd, Nat.reduceSub, Nat.reduceMul, Nat.reduceEqDiff, Nat.reduceBEq, Nat.reduceLeDiff, Int.reduceToNat, Int.reduceLT, Int.reduceLE, Int.reduceEq, reduceCtorEq, ↓reduceIte, X78_3, k78_3]
  cases b6 : (p5 : Bool)
  · replace h := br_f b6 h
    cases h
    simp -implicitDefEqProofs only [go_sem, Nat.reduceLT, Nat.reduceAdd, Nat.reduceSub, Nat.reduceMul, Nat.reduceEqDiff, Nat.reduceBEq, Nat.reduceLeDiff, Int.reduceToNat, Int.reduceLT, Int.reduceLE, Int.reduceEq, reduceCtorEq, ↓reduceIte, X78_3, k78_3, b6]
  · replace h := br_t b6 h
    cases h
    simp -implicitDefEqProofs only [go_sem, Nat.reduceLT, Nat.reduceAdd, Nat.reduceSub, Nat.reduceMul, Nat.reduceEqDiff, Nat.reduceBEq, Nat.reduceLeDiff, Int.reduceToNat, Int.reduceLT, Int.reduceLE, Int.reduceEq, reduceCtorEq, ↓reduceIte, X78_3, k78_3, b6]
noncomputable def X78_2 (a0 : Int) (p3 : Bool) (o : Bool) : Ex × Fr × St :=
  (.normal, frOf 14 (upd (upd anyF 3 (.int .i64 a0)) 4 (.bool o)), [])
theorem e78_2 (a0 : Int) (p3 : Bool) (o : Bool) (h : m78_2 a0 p3 = some o) : evCL T 0 k78_2 (frOf 14 (upd (upd anyF 3 (.int .i64 a0)) 4 (.bool p3))) [] = some (X78_2 a0 p3 o) := by
  unfold m78_2 at h
  try simp -implicitDefEqProofs only [go_sem, Nat.reduceLT, Nat.reduceAdd, Nat.reduceSub, Nat.reduceMul, Nat.reduceEqDiff, Nat.reduceBEq, Nat.reduceLeDiff, Int.reduceToNat, Int.reduceLT, Int.reduceLE, Int.reduceEq, reduceCtorEq, ↓reduceIte, X78_2, k78_2]
  cases b4 : (p3 : Bool)
  · replace h := br_f b4 h
    obtain ⟨v9, q7, h⟩ := bnd_some h
    have w8 := e78_3 a0 (eqI a0 3) v9 q7
    simp only [X78_3] at w8
    try simp -implicitDefEqProofs only [go_sem, Nat.reduceLT, Nat.reduceAdd, Nat.reduceSub, Nat.reduceMul, Nat.reduceEqDiff, Nat.reduceBEq, Nat.reduceLeDiff, Int.reduceToNat, Int.reduceLT, Int.reduceLE, Int.reduceEq, reduceCtorEq, ↓reduceIte] at w8
    cases h
    simp -implicitDefEqProofs only [go_sem, Nat.reduceLT, Nat.reduceAdd, Nat.reduceSub, Nat.reduceMul, Nat.reduceEqDiff, Nat.reduceBEq, Nat.reduceLeDiff, Int.reduceToNat, Int.reduceLT, Int.reduceLE, Int.reduceEq, reduceCtorEq, ↓reduceIte, X78_2, k78_2, b4, w8]
  · replace h := br_t b4 h
    cases h
    simp -implicitDefEqProofs only [go_sem, Nat.reduceLT, Nat.reduceAdd, Nat.reduceSub, Nat.reduceMul, Nat.reduceEqDiff, Nat.reduceBEq, Nat.reduceLeDiff, Int.reduceToNat, Int.reduceLT, Int.reduceLE, Int.reduceEq, reduceCtorEq, ↓reduceIte, X78_2, k78_2, b4]
noncomputable def X78_1 (a0 : Int) (p1 : Bool) (o : Bool) : Ex × Fr × St :=
  (.normal, frOf 14 (upd (upd anyF 3 (.int .i64 a0)) 4 (.bool o)), [])
theorem e78_1 (a0 : Int) (p1 : Bool) (o : Bool) (h : m78_1 a0 p1 = some o) : evCL T 0 k78_1 (frOf 14 (upd (upd anyF 3 (.int .i64 a0)) 4 (.bool p1))) [] = some (X78_1 a0 p1 o) := by
  unfold m78_1 at h
  try simp -implicitDefEqProofs only [go_sem, Nat.reduceLT, Nat.reduceAdd, Nat.reduceSub, Nat.reduceMul, Nat.reduceEqDiff, Nat.reduceBEq, Nat.reduceLeDiff, Int.reduceToNat, Int.reduceLT, Int.reduceLE, Int.reduceEq, reduceCtorEq, ↓reduceIte, X78_1, k78_1]
  cases b2 : (p1 : Bool)
  · replace h := br_f b2 h
    obtain ⟨v12, q10, h⟩ := bnd_some h
    have w11 := e78_2 a0 (eqI a0 2) v12 q10
    simp only [X78_2] at w11
    try simp -implicitDefEqProofs only [go_sem, Nat.reduceLT, Nat.reduceAdd, Nat.reduceSub, Nat.reduceMul, Nat.reduceEqDiff, Nat.reduceBEq, Nat.reduceLeDiff, Int.reduceToNat, Int.reduceLT, Int.reduceLE, Int.reduceEq, reduceCtorEq, ↓reduceIte] at w11
    cases h
    simp -implicitDefEqProofs only [go_sem, Nat.reduceLT, Nat.reduceAdd, Nat.reduceSub, Nat.reduceMul, Nat.reduceEqDiff, Nat.reduceBEq, Nat.reduceLeDiff, Int.reduceToNat, Int.reduceLT, Int.reduceLE, Int.reduceEq, reduceCtorEq, ↓reduceIte, X78_1, k78_1, b2, w11]
  · replace h := br_t b2 h
    cases h
    simp -implicitDefEqProofs only [go_sem, Nat.reduceLT, Nat.reduceAdd, Nat.reduceSub, Nat.reduceMul, Nat.reduceEqDiff, Nat.reduceBEq, Nat.reduceLeDiff, Int.reduceToNat, Int.reduceLT, Int.reduceLE, Int.reduceEq, reduceCtorEq, ↓reduceIte, X78_1, k78_1, b2]
noncomputable def X78_4 (a0 : Int) (p17 : Bool) (o : Bool) : Ex × Fr × St :=
  (.normal, frOf 14 (upd (upd anyF 3 (.int .i64 a0)) 9 (.bool o)), [])
theorem e78_4 (a0 : Int) (p17 : Bool) (o : Bool) (h : m78_4 a0 p17 = some o) : evCL T 0 k78_4 (frOf 14 (upd (upd anyF 3 (.int .i64 a0)) 9 (.bool p17))) [] = some (X78_4 a0 p17 o) := by
  unfold m78_4 at h
  try simp -implicitDefEqProofs only [go_sem, Nat.reduceLT, Nat.reduceAdd, Nat.reduceSub, Nat.reduceMul, Nat.reduceEqDiff, Nat.reduceBEq, Nat.reduceLeDiff, Int.reduceToNat, Int.reduceLT, Int.reduceLE, Int.reduceEq, reduceCtorEq, ↓reduceIte, X78_4, k78_4]
  cases b18 : (p17 : Bool)
  · replace h := br_f b18 h
    cases h
    simp -implicitDefEqProofs only [go_sem, Nat.reduceLT, Nat.reduceAdd, Nat.reduceSub, Nat.reduceMul, Nat.reduceEqDiff, Nat.reduceBEq, Nat.reduceLeDiff, Int.reduceToNat, Int.reduceLT, Int.reduceLE, Int.reduceEq, reduceCtorEq, ↓reduceIte, X78_4, k78_4, b18]
  · replace h := br_t b18 h
    cases h
    simp -implicitDefEqProofs only [go_sem, Nat.reduceLT, Nat.reduceAdd, Nat.reduceSub, Nat.reduceMul, Nat.reduceEqDiff, Nat.reduceBEq, Nat.reduceLeDiff, Int.reduceToNat, Int.reduceLT, Int.reduceLE, Int.reduceEq, reduceCtorEq, ↓reduceIte, X78_4, k78_4, b18]
theorem e78 (a0 : Int) (r : Int) (h : m78 a0 = some r) : evFL T 78 [.int .i64 a0] [] = some (.int .i64 r, []) := by
  unfold m78 at h
  rw [evFL_at fn78 (Nat.le_of_ble_eq_true rfl) rfl (.inr rfl) ⟨rfl, rfl⟩]
  obtain ⟨v15, q13, h⟩ := bnd_some h
  have w14 := e78_1 a0 (eqI a0 1) v15 q13
  simp only [X78_1] at w14
  try simp -implicitDefEqProofs only [go_sem, Nat.reduceLT, Nat.reduceAdd, Nat.reduceSub, Nat.reduceMul, Nat.reduceEqDiff, Nat.reduceBEq, Nat.reduceLeDiff, Int.reduceToNat, Int.reduceLT, Int.reduceLE, Int.reduceEq, reduceCtorEq, ↓reduceIte] at w14
  try simp -implicitDefEqProofs only [go_sem, Nat.reduceLT, Nat.reduceAdd, Nat.reduceSub, Nat.reduceMul, Nat.reduceEqDiff, Nat.reduceBEq, Nat.reduceLeDiff, Int.reduceToNat, Int.reduceLT, Int.reduceLE, Int.reduceEq, reduceCtorEq, ↓reduceIte, i78, c78, w14]
  cases b16 : (v15 : Bool)
  · replace h := br_f b16 h
    obtain ⟨v21, q19, h⟩ := bnd_some h
    have w20 := e78_4 a0 (eqI a0 5) v21 q19
    simp only [X78_4] at w20
    try simp -implicitDefEqProofs only [go_sem, Nat.reduceLT, Nat.reduceAdd, Nat.reduceSub, Nat.reduceMul, Nat.reduceEqDiff, Nat.reduceBEq, Nat.reduceLeDiff, Int.reduceToNat, Int.reduceLT, Int.reduceLE, Int.reduceEq, reduceCtorEq, ↓reduceIte] at w20
    try simp -implicitDefEqProofs only [go_sem, Nat.reduceLT, Nat.reduceAdd, Nat.reduceSub, Nat.reduceMul, Nat.reduceEqDiff, Nat.reduceBEq, Nat.reduceLeDiff, Int.reduceToNat, Int.reduceLT, Int.reduceLE, Int.reduceEq, reduceCtorEq, ↓reduceIte, i78, c78, w14, b16, w20]
    cases b22 : (v21 : Bool)
    · replace h := br_f b22 h
      try simp -implicitDefEqProofs only [go_sem, Nat.reduceLT, Nat.reduceAdd, Nat.reduceSub, Nat.reduceMul, Nat.reduceEqDiff, Nat.reduceBEq, Nat.reduceLeDiff, Int.reduceToNat, Int.reduceLT, Int.reduceLE, Int.reduceEq, reduceCtorEq, ↓reduceIte, i78, c78, w14, b16, w20, b22]
      cases b23 : (eqI a0 7 : Bool)
      · replace h := br_f b23 h
        cases h
        simp -implicitDefEqProofs only [go_sem, Nat.reduceLT, Nat.reduceAdd, Nat.reduceSub, Nat.reduceMul, Nat.reduceEqDiff, Nat.reduceBEq, Nat.reduceLeDiff, Int.reduceToNat, Int.reduceLT, Int.reduceLE, Int.reduceEq, reduceCtorEq, ↓reduceIte, i78, c78, w14, b16, w20, b22, b23]
      · replace h := br_t b23 h
        cases h
        simp -implicitDefEqProofs only [go_sem, Nat.reduceLT, Nat.reduceAdd, Nat.reduceSub, Nat.reduceMul, Nat.reduceEqDiff, Nat.reduceBEq, Nat.reduceLeDiff, Int.reduceToNat, Int.reduceLT, Int.reduceLE, Int.reduceEq, reduceCtorEq, ↓reduceIte, i78, c78, w14, b16, w20, b22, b23]
    · replace h := br_t b22 h
      cases h
      simp -implicitDefEqProofs only [go_sem, Nat.reduceLT, Nat.reduceAdd, Nat.reduceSub, Nat.reduceMul, Nat.reduceEqDiff, Nat.reduceBEq, Nat.reduceLeDiff, Int.reduceToNat, Int.reduceLT, Int.reduceLE, Int.reduceEq, reduceCtorEq, ↓reduceIte, i78, c78, w14, b16, w20, b22]
  · replace h := br_t b16 h
    cases h
    simp -implicitDefEqProofs only [go_sem, Nat.reduceLT, Nat.reduceAdd, Nat.reduceSub, Nat.reduceMul, Nat.reduceEqDiff, Nat.reduceBEq, Nat.reduceLeDiff, Int.reduceToNat, Int.reduceLT, Int.reduceLE, Int.reduceEq, reduceCtorEq, ↓reduceIte, i78, c78, w14, b16]
-- f36 spec.l1In
theorem call36 (args : List AV) (S : St) : evCall T (evFL T) 36 args S = lendC (evFL T 36) S (lendAll S [[0], [0], [0]] args) := evCall0 fn36 rfl rfl rfl args S
theorem callz36 (args : List AV) (S : St) : evCallFz T (evFL T) 36 args S = lendZ (evFL T 36) S [[0]] (lendAll S [[0], [0], [0]] args) := evCallFz0 fn36 rfl rfl rfl args S
attribute [go_sem] call36 callz36
noncomputable def X36_1 (a0 : Int) (a1 : Int) (a2 : Int) (o : Bool) : Ex × Fr × St :=
  (.normal, frOf 15 (upd anyF 6 (.bool o)), [])
theorem e36_1 (a0 : Int) (a1 : Int) (a2 : Int) (o : Bool) (h : m36_1 a0 a1 a2 = some o) : evCL T 0 k36_1 (frOf 15 (upd (upd (upd anyF 0 (.int .i64 a0)) 1 (.int .i64 a1)) 2 (.int .i64 a2))) [] = some (X36_1 a0 a1 a2 o) := by
  unfold m36_1 at h
  try simp -implicitDefEqProofs only [go_sem, Nat.reduceLT, Nat.reduceAdd, Nat.reduceSub, Nat.reduceMul, Nat.reduceEqDiff, Nat.reduceBEq, Nat.reduceLeDiff, Int.reduceToNat, Int.reduceLT, Int.reduceLE, Int.reduceEq, reduceCtorEq, ↓reduceIte, X36_1, k36_1]
  cases b1 : (leI a1 a0 : Bool)
  · replace h := br_f b1 h
    cases h
    simp -implicitDefEqProofs only [go_sem, Nat.reduceLT, Nat.reduceAdd, Nat.reduceSub, Nat.reduceMul, Nat.reduceEqDiff, Nat.reduceBEq, Nat.reduceLeDiff, Int.reduceToNat, Int.reduceLT, Int.reduceLE, Int.reduceEq, reduceCtorEq, ↓reduceIte, X36_1, k36_1, b1]
  · replace h := br_t b1 h
    cases h
    simp -implicitDefEqProofs only [go_sem, Nat.reduceLT, Nat.reduceAdd, Nat.reduceSub, Nat.reduceMul, Nat.reduceEqDiff, Nat.reduceBEq, Nat.reduceLeDiff, Int.reduceToNat, Int.reduceLT, Int.reduceLE, Int.reduceEq, reduceCtorEq, ↓reduceIte, X36_1, k36_1, b1]
theorem e36 (a0 : Int) (a1 : Int) (a2 : Int) (r : Bool) (h : m36 a0 a1 a2 = some r) : evFL T 36 [.int .i64 a0, .int .i64 a1, .int .i64 a2] [] = some (.bool r, []) := by
  unfold m36 at h
  rw [evFL_at fn36 (Nat.le_of_ble_eq_true rfl) rfl (.inr rfl) ⟨rfl, rfl⟩]
  obtain ⟨v4, q2, h⟩ := bnd_some h
  have w3 := e36_1 a0 a1 a2 v4 q2
  simp only [X36_1] at w3
  try simp -implicitDefEqProofs only [go_sem, Nat.reduceLT, Nat.reduceAdd, Nat.reduceSub, Nat.reduceMul, Nat.reduceEqDiff, Nat.reduceBEq, Nat.reduceLeDiff, Int.reduceToNat, Int.reduceLT, Int.reduceLE, Int.reduceEq, reduceCtorEq, ↓reduceIte] at w3
  cases h
  simp -implicitDefEqProofs only [go_sem, Nat.reduceLT, Nat.reduceAdd, Nat.reduceSub, Nat.reduceMul, Nat.reduceEqDiff, Nat.reduceBEq, Nat.reduceLeDiff, Int.reduceToNat, Int.reduceLT, Int.reduceLE, Int.reduceEq, reduceCtorEq, ↓reduceIte, i36, c36, w3]
-- f62 spec.l6Read
theorem call62 (args : List AV) (S : St) : evCall T (evFL T) 62 args S = lendC (evFL T 62) S (lendAll S [[2], [0]] args) := evCall0 fn62 rfl rfl rfl args S
theorem callz62 (args : List AV) (S : St) : evCallFz T (evFL T) 62 args S = lendZ (evFL T 62) S [[0, 0, 3], [0]] (lendAll S [[2], [0]] args) := evCallFz0 fn62 rfl rfl rfl args S
attribute [go_sem] call62 callz62
noncomputable def X62_1 (a0 : (List ReCell)) (a1 : Int) (r9 : Int) (x2 : ReCell) (o : Bool) : Ex × Fr × St :=
  (.normal, frOf 76 (upd (upd (upd (upd (upd (upd anyF 0 (.ts .imm 2 (a0.map encReCell))) 1 (.int .i64 a1)) 4 (.ptr 0 0 0)) 6 (.ptr 2 0 0)) 7 (.int .i64 r9)) 45 (.bool o)), [some ⟨.box, 3, [[.int .i64 0, .int .i64 0, .sl 1 0 0]]⟩, some ⟨.arr, 3, []⟩, some ⟨.box, 2, [[.int .i64 x2.kind, .int .i64 x2.n]]⟩])
theorem e62_1 (rc : (List ReCell) → Int → Option (l6T × Int)) (hrc : ∀ (a0 : (List ReCell)) (a1 : Int) (r : (l6T × Int)), rc a0 a1 = some r → evFL T 62 [.ts .imm 2 (a0.map encReCell), .int .i64 a1] [] = some (.tup [.agg [.int .i64 r.1.kind_, .int .i64 r.1.n_, .sl 0 0 r.1.kids_.length], .int .i64 r.2], [some ⟨.arr, 3, r.1.kids_.map (encl6T .own)⟩])) (a0 : (List ReCell)) (a1 : Int) (r9 : Int) (x2 : ReCell) (o : Bool) (h : m62_1 rc r9 x2 = some o) : evCL T 0 k62_1 (frOf 76 (upd (upd (upd (upd (upd anyF 0 (.ts .imm 2 (a0.map encReCell))) 1 (.int .i64 a1)) 4 (.ptr 0 0 0)) 6 (.ptr 2 0 0)) 7 (.int .i64 r9))) [some ⟨.box, 3, [[.int .i64 0, .int .i64 0, .sl 1 0 0]]⟩, some ⟨.arr, 3, []⟩, some ⟨.box, 2, [[.int .i64 x2.kind, .int .i64 x2.n]]⟩] = some (X62_1 a0 a1 r9 x2 o) := by
  unfold m62_1 at h
  try simp -implicitDefEqProofs only [go_sem, Nat.reduceLT, Nat.reduceAdd, Nat.reduceSub, Nat.reduceMul, Nat.reduceEqDiff, Nat.reduceBEq, Nat.reduceLeDiff, Int.reduceToNat, Int.reduceLT, Int.reduceLE, Int.reduceEq, reduceCtorEq, ↓reduceIte, X62_1, k62_1]
  cases b10 : (ltI r9 0 : Bool)
  · replace h := br_f b10 h
    try simp -implicitDefEqProofs only [go_sem, Nat.reduceLT, Nat.reduceAdd, Nat.reduceSub, Nat.reduceMul, Nat.reduceEqDiff, Nat.reduceBEq, Nat.reduceLeDiff, Int.reduceToNat, Int.reduceLT, Int.reduceLE, Int.reduceEq, reduceCtorEq, ↓reduceIte, X62_1, k62_1, b10]
    cases b11 : (eqI x2.kind 3 : Bool)
    · replace h := br_f b11 h
      cases h
      simp -implicitDefEqProofs only [go_sem, Nat.reduceLT, Nat.reduceAdd, Nat.reduceSub, Nat.reduceMul, Nat.reduceEqDiff, Nat.reduceBEq, Nat.reduceLeDiff, Int.reduceToNat, Int.reduceLT, Int.reduceLE, Int.reduceEq, reduceCtorEq, ↓reduceIte, X62_1, k62_1, b10, b11]
    · replace h := br_t b11 h
      obtain ⟨r14, q12, h⟩ := bnd_some h
      have w13 := e36 x2.n 1 65535 r14 q12
      try simp -implicitDefEqProofs only [go_sem, Nat.reduceLT, Nat.reduceAdd, Nat.reduceSub, Nat.reduceMul, Nat.reduceEqDiff, Nat.reduceBEq, Nat.reduceLeDiff, Int.reduceToNat, Int.reduceLT, Int.reduceLE, Int.reduceEq, reduceCtorEq, ↓reduceIte] at w13
      try simp -implicitDefEqProofs only [go_sem, Nat.reduceLT, Nat.reduceAdd, Nat.reduceSub, Nat.reduceMul, Nat.reduceEqDiff, Nat.reduceBEq, Nat.reduceLeDiff, Int.reduceToNat, Int.reduceLT, Int.reduceLE, Int.reduceEq, reduceCtorEq, ↓reduceIte, X62_1, k62_1, b10, b11, w13]
      cases b15 : (r14 : Bool)
      · replace h := br_f b15 h
        cases h
        simp -implicitDefEqProofs only [go_sem, Nat.reduceLT, Nat.reduceAdd, Nat.reduceSub, Nat.reduceMul, Nat.reduceEqDiff, Nat.reduceBEq, Nat.reduceLeDiff, Int.reduceToNat, Int.reduceLT, Int.reduceLE, Int.reduceEq, reduceCtorEq, ↓reduceIte, X62_1, k62_1, b10, b11, w13, b15]
      · replace h := br_t b15 h
        cases h
        simp -implicitDefEqProofs only [go_sem, Nat.reduceLT, Nat.reduceAdd, Nat.reduceSub, Nat.reduceMul, Nat.reduceEqDiff, Nat.reduceBEq, Nat.reduceLeDiff, Int.reduceToNat, Int.reduceLT, Int.reduceLE, Int.reduceEq, reduceCtorEq, ↓reduceIte, X62_1, k62_1, b10, b11, w13, b15]
  · replace h := br_t b10 h
    cases h
    simp -implicitDefEqProofs only [go_sem, Nat.reduceLT, Nat.reduceAdd, Nat.reduceSub, Nat.reduceMul, Nat.reduceEqDiff, Nat.reduceBEq, Nat.reduceLeDiff, Int.reduceToNat, Int.reduceLT, Int.reduceLE, Int.reduceEq, reduceCtorEq, ↓reduceIte, X62_1, k62_1, b10]
noncomputable def X62_2 (a0 : (List ReCell)) (x2 : ReCell) (o : ((Int × List l6T) ⊕ Unit)) : Ex × Fr × St :=
  match o with
  | .inl o => (.exit 0, frOf 76 (upd (upd (upd anyF 1 (.int .i64 o.1)) 4 (.ptr 0 0 0)) 8 (.ptr 2 0 0)), [some ⟨.box, 3, [[.int .i64 0, .int .i64 0, .sl 1 0 0]]⟩, some ⟨.arr, 3, []⟩, some ⟨.box, 3, [[.int .i64 x2.kind, .int .i64 x2.n, .sl 3 0 o.2.length]]⟩, some ⟨.arr, 3, o.2.map (encl6T .own)⟩])
  | .inr o => (.ret, frOf 76 (upd (upd anyF 4 (.ptr 0 0 0)) 5 (.int .i64 0)), [some ⟨.box, 3, [[.int .i64 0, .int .i64 0, .sl 1 0 0]]⟩, some ⟨.arr, 3, []⟩])
noncomputable def E62_2 (a0 : (List ReCell)) (x2 : ReCell) (s : (Int × Int × List l6T)) : Fr × St := (frOf 76 (upd (upd (upd (upd (upd anyF 0 (.ts .imm 2 (a0.map encReCell))) 1 (.int .i64 s.1)) 4 (.ptr 0 0 0)) 7 (.int .i64 s.2.1)) 8 (.ptr 2 0 0)), [some ⟨.box, 3, [[.int .i64 0, .int .i64 0, .sl 1 0 0]]⟩, some ⟨.arr, 3, []⟩, some ⟨.box, 3, [[.int .i64 x2.kind, .int .i64 x2.n, .sl 3 0 s.2.2.length]]⟩, some ⟨.arr, 3, s.2.2.map (encl6T .own)⟩])
theorem b62_2 (rc : (List ReCell) → Int → Option (l6T × Int)) (hrc : ∀ (a0 : (List ReCell)) (a1 : Int) (r : (l6T × Int)), rc a0 a1 = some r → evFL T 62 [.ts .imm 2 (a0.map encReCell), .int .i64 a1] [] = some (.tup [.agg [.int .i64 r.1.kind_, .int .i64 r.1.n_, .sl 0 0 r.1.kids_.length], .int .i64 r.2], [some ⟨.arr, 3, r.1.kids_.map (encl6T .own)⟩])) (a0 : (List ReCell)) (x2 : ReCell) (s : (Int × Int × List l6T)) (o : Ctl (Int × Int × List l6T) ((Int × List l6T) ⊕ Unit)) (h : m62_2b rc a0 s = some o) : evCL T 0 k62_2b (E62_2 a0 x2 s).1 (E62_2 a0 x2 s).2 = some (ctlX (E62_2 a0 x2) (X62_2 a0 x2) o) := by
  unfold m62_2b at h
  obtain ⟨s27, s28, s29⟩ := s
  replace h := sel3_some h
  try simp -implicitDefEqProofs only [go_sem, Nat.reduceLT, Nat.reduceAdd, Nat.reduceSub, Nat.reduceMul, Nat.reduceEqDiff, Nat.reduceBEq, Nat.reduceLeDiff, Int.reduceToNat, Int.reduceLT, Int.reduceLE, Int.reduceEq, reduceCtorEq, ↓reduceIte, E62_2, X62_2, k62_2b]
  cases b30 : (ltI 0 s28 : Bool)
  · replace h := br_f b30 h
    cases h
    simp -implicitDefEqProofs only [go_sem, Nat.reduceLT, Nat.reduceAdd, Nat.reduceSub, Nat.reduceMul, Nat.reduceEqDiff, Nat.reduceBEq, Nat.reduceLeDiff, Int.reduceToNat, Int.reduceLT, Int.reduceLE, Int.reduceEq, reduceCtorEq, ↓reduceIte, E62_2, X62_2, k62_2b, b30]
  · replace h := br_t b30 h
    obtain ⟨⟨r33, r34⟩, q31, h⟩ := bnd_some h
    replace h := sel2_some h
    have w32 := hrc a0 s27 (r33, r34) q31
    try simp -implicitDefEqProofs only [go_sem, Nat.reduceLT, Nat.reduceAdd, Nat.reduceSub, Nat.reduceMul, Nat.reduceEqDiff, Nat.reduceBEq, Nat.reduceLeDiff, Int.reduceToNat, Int.reduceLT, Int.reduceLE, Int.reduceEq, reduceCtorEq, ↓reduceIte] at w32
    try simp -implicitDefEqProofs only [go_sem, Nat.reduceLT, Nat.reduceAdd, Nat.reduceSub, Nat.reduceMul, Nat.reduceEqDiff, Nat.reduceBEq, Nat.reduceLeDiff, Int.reduceToNat, Int.reduceLT, Int.reduceLE, Int.reduceEq, reduceCtorEq, ↓reduceIte, E62_2, X62_2, k62_2b, b30, w32]
    cases b35 : (eqI r34 0 : Bool)
    · replace h := br_f b35 h
      obtain ⟨g36, h⟩ := ck_some h
      try simp -implicitDefEqProofs only [go_sem, Nat.reduceLT, Nat.reduceAdd, Nat.reduceSub, Nat.reduceMul, Nat.reduceEqDiff, Nat.reduceBEq, Nat.reduceLeDiff, Int.reduceToNat, Int.reduceLT, Int.reduceLE, Int.reduceEq, reduceCtorEq, ↓reduceIte] at g36
      cases h
      simp -implicitDefEqProofs only [go_sem, Nat.reduceLT, Nat.reduceAdd, Nat.reduceSub, Nat.reduceMul, Nat.reduceEqDiff, Nat.reduceBEq, Nat.reduceLeDiff, Int.reduceToNat, Int.reduceLT, Int.reduceLE, Int.reduceEq, reduceCtorEq, ↓reduceIte, E62_2, X62_2, k62_2b, b30, w32, b35, g36]
    · replace h := br_t b35 h
      cases h
      simp -implicitDefEqProofs only [go_sem, Nat.reduceLT, Nat.reduceAdd, Nat.reduceSub, Nat.reduceMul, Nat.reduceEqDiff, Nat.reduceBEq, Nat.reduceLeDiff, Int.reduceToNat, Int.reduceLT, Int.reduceLE, Int.reduceEq, reduceCtorEq, ↓reduceIte, E62_2, X62_2, k62_2b, b30, w32, b35]
theorem e62_2 (rc : (List ReCell) → Int → Option (l6T × Int)) (hrc : ∀ (a0 : (List ReCell)) (a1 : Int) (r : (l6T × Int)), rc a0 a1 = some r → evFL T 62 [.ts .imm 2 (a0.map encReCell), .int .i64 a1] [] = some (.tup [.agg [.int .i64 r.1.kind_, .int .i64 r.1.n_, .sl 0 0 r.1.kids_.length], .int .i64 r.2], [some ⟨.arr, 3, r.1.kids_.map (encl6T .own)⟩])) (a0 : (List ReCell)) (x2 : ReCell) (s : (Int × Int × List l6T)) (o : ((Int × List l6T) ⊕ Unit)) (h : loopP (m62_2b rc a0) s = some o) : evCL T 0 (.loop k62_2b) (E62_2 a0 x2 s).1 (E62_2 a0 x2 s).2 = some (X62_2 a0 x2 o) :=
  loop_walk (E := E62_2 a0 x2) (X := X62_2 a0 x2) (by intro b; rcases b with b | b <;> (simp only [X62_2]; nofun)) (b62_2 rc hrc a0 x2) s o h
theorem e62r (rc : (List ReCell) → Int → Option (l6T × Int)) (hrc : ∀ (a0 : (List ReCell)) (a1 : Int) (r : (l6T × Int)), rc a0 a1 = some r → evFL T 62 [.ts .imm 2 (a0.map encReCell), .int .i64 a1] [] = some (.tup [.agg [.int .i64 r.1.kind_, .int .i64 r.1.n_, .sl 0 0 r.1.kids_.length], .int .i64 r.2], [some ⟨.arr, 3, r.1.kids_.map (encl6T .own)⟩])) (a0 : (List ReCell)) (a1 : Int) (r : (l6T × Int)) (h : m62r rc a0 a1 = some r) : evFL T 62 [.ts .imm 2 (a0.map encReCell), .int .i64 a1] [] = some (.tup [.agg [.int .i64 r.1.kind_, .int .i64 r.1.n_, .sl 0 0 r.1.kids_.length], .int .i64 r.2], [some ⟨.arr, 3, r.1.kids_.map (encl6T .own)⟩]) := by
  unfold m62r at h
  rw [evFL_at fn62 (Nat.le_of_ble_eq_true rfl) rfl (.inr rfl) ⟨rfl, rfl⟩]
  try simp -implicitDefEqProofs only [go_sem, Nat.reduceLT, Nat.reduceAdd, Nat.reduceSub, Nat.reduceMul, Nat.reduceEqDiff, Nat.reduceBEq, Nat.reduceLeDiff, Int.reduceToNat, Int.reduceLT, Int.reduceLE, Int.reduceEq, reduceCtorEq, ↓reduceIte, i62, c62]
  cases b1 : (leI (↑a0.length : Int) a1 : Bool)
  · replace h := br_f b1 h
    obtain ⟨x2, q3, h⟩ := bnd_some h
    obtain ⟨g4, g5, g6⟩ := idx_row encReCell q3
    try simp -implicitDefEqProofs only [go_sem, Nat.reduceLT, Nat.reduceAdd, Nat.reduceSub, Nat.reduceMul, Nat.reduceEqDiff, Nat.reduceBEq, Nat.reduceLeDiff, Int.reduceToNat, Int.reduceLT, Int.reduceLE, Int.reduceEq, reduceCtorEq, ↓reduceIte] at g5
    try simp -implicitDefEqProofs only [go_sem, Nat.reduceLT, Nat.reduceAdd, Nat.reduceSub, Nat.reduceMul, Nat.reduceEqDiff, Nat.reduceBEq, Nat.reduceLeDiff, Int.reduceToNat, Int.reduceLT, Int.reduceLE, Int.reduceEq, reduceCtorEq, ↓reduceIte] at g6
    obtain ⟨r9, q7, h⟩ := bnd_some h
    have w8 := e78 x2.kind r9 q7
    try simp -implicitDefEqProofs only [go_sem, Nat.reduceLT, Nat.reduceAdd, Nat.reduceSub, Nat.reduceMul, Nat.reduceEqDiff, Nat.reduceBEq, Nat.reduceLeDiff, Int.reduceToNat, Int.reduceLT, Int.reduceLE, Int.reduceEq, reduceCtorEq, ↓reduceIte] at w8
    obtain ⟨v18, q16, h⟩ := bnd_some h
    have w17 := e62_1 rc hrc a0 a1 r9 x2 v18 q16
    simp only [X62_1] at w17
    try simp -implicitDefEqProofs only [go_sem, Nat.reduceLT, Nat.reduceAdd, Nat.reduceSub, Nat.reduceMul, Nat.reduceEqDiff, Nat.reduceBEq, Nat.reduceLeDiff, Int.reduceToNat, Int.reduceLT, Int.reduceLE, Int.reduceEq, reduceCtorEq, ↓reduceIte] at w17
    try simp -implicitDefEqProofs only [go_sem, Nat.reduceLT, Nat.reduceAdd, Nat.reduceSub, Nat.reduceMul, Nat.reduceEqDiff, Nat.reduceBEq, Nat.reduceLeDiff, Int.reduceToNat, Int.reduceLT, Int.reduceLE, Int.reduceEq, reduceCtorEq, ↓reduceIte, i62, c62, b1, g4, g5, g6, w8, w17]
    cases b19 : (v18 : Bool)
    · replace h := br_f b19 h
      try simp -implicitDefEqProofs only [go_sem, Nat.reduceLT, Nat.reduceAdd, Nat.reduceSub, Nat.reduceMul, Nat.reduceEqDiff, Nat.reduceBEq, Nat.reduceLeDiff, Int.reduceToNat, Int.reduceLT, Int.reduceLE, Int.reduceEq, reduceCtorEq, ↓reduceIte, i62, c62, b1, g4, g5, g6, w8, w17, b19]
      obtain ⟨o, q37, h⟩ := bnd_some h
      rcases o with ⟨v39, v40⟩ | ⟨⟩
      · replace h := selS_l h
        replace h := sel2_some h
        have w38 := e62_2 rc hrc a0 x2 (wadd .i64 a1 1, r9, []) (.inl (v39, v40)) q37
        simp only [E62_2, X62_2] at w38
        try simp -implicitDefEqProofs only [go_sem, Nat.reduceLT, Nat.reduceAdd, Nat.reduceSub, Nat.reduceMul, Nat.reduceEqDiff, Nat.reduceBEq, Nat.reduceLeDiff, Int.reduceToNat, Int.reduceLT, Int.reduceLE, Int.reduceEq, reduceCtorEq, ↓reduceIte] at w38
        cases h
        simp -implicitDefEqProofs only [go_sem, Nat.reduceLT, Nat.reduceAdd, Nat.reduceSub, Nat.reduceMul, Nat.reduceEqDiff, Nat.reduceBEq, Nat.reduceLeDiff, Int.reduceToNat, Int.reduceLT, Int.reduceLE, Int.reduceEq, reduceCtorEq, ↓reduceIte, i62, c62, b1, g4, g5, g6, w8, w17, b19, w38]
      · replace h := selS_r h
        have w38 := e62_2 rc hrc a0 x2 (wadd .i64 a1 1, r9, []) (.inr ()) q37
        simp only [E62_2, X62_2] at w38
        try simp -implicitDefEqProofs only [go_sem, Nat.reduceLT, Nat.reduceAdd, Nat.reduceSub, Nat.reduceMul, Nat.reduceEqDiff, Nat.reduceBEq, Nat.reduceLeDiff, Int.reduceToNat, Int.reduceLT, Int.reduceLE, Int.reduceEq, reduceCtorEq, ↓reduceIte] at w38
        cases h
        simp -implicitDefEqProofs only [go_sem, Nat.reduceLT, Nat.reduceAdd, Nat.reduceSub, Nat.reduceMul, Nat.reduceEqDiff, Nat.reduceBEq, Nat.reduceLeDiff, Int.reduceToNat, Int.reduceLT, Int.reduceLE, Int.reduceEq, reduceCtorEq, ↓reduceIte, i62, c62, b1, g4, g5, g6, w8, w17, b19, w38]
    · replace h := br_t b19 h
      cases h
      simp -implicitDefEqProofs only [go_sem, Nat.reduceLT, Nat.reduceAdd, Nat.reduceSub, Nat.reduceMul, Nat.reduceEqDiff, Nat.reduceBEq, Nat.reduceLeDiff, Int.reduceToNat, Int.reduceLT, Int.reduceLE, Int.reduceEq, reduceCtorEq, ↓reduceIte, i62, c62, b1, g4, g5, g6, w8, w17, b19]
  · replace h := br_t b1 h
    cases h
    simp -implicitDefEqProofs only [go_sem, Nat.reduceLT, Nat.reduceAdd, Nat.reduceSub, Nat.reduceMul, Nat.reduceEqDiff, Nat.reduceBEq, Nat.reduceLeDiff, Int.reduceToNat, Int.reduceLT, Int.reduceLE, Int.reduceEq, reduceCtorEq, ↓reduceIte, i62, c62, b1]
theorem e62k : ∀ (k : Nat) (a0 : (List ReCell)) (a1 : Int) (r : (l6T × Int)) (h : m62k k a0 a1 = some r), evFL T 62 [.ts .imm 2 (a0.map encReCell), .int .i64 a1] [] = some (.tup [.agg [.int .i64 r.1.kind_, .int .i64 r.1.n_, .sl 0 0 r.1.kids_.length], .int .i64 r.2], [some ⟨.arr, 3, r.1.kids_.map (encl6T .own)⟩]) := by
  intro k
  induction k with
  | zero => intro a0 a1 r h; cases h
  | succ k ih => intro a0 a1 r h; exact e62r (m62k k) (fun a0 a1 r h => ih a0 a1 r h) a0 a1 r h
theorem e62 (a0 : (List ReCell)) (a1 : Int) (r : (l6T × Int)) (h : m62 a0 a1 = some r) : evFL T 62 [.ts .imm 2 (a0.map encReCell), .int .i64 a1] [] = some (.tup [.agg [.int .i64 r.1.kind_, .int .i64 r.1.n_, .sl 0 0 r.1.kids_.length], .int .i64 r.2], [some ⟨.arr, 3, r.1.kids_.map (encl6T .own)⟩]) := by
  obtain ⟨N, hN⟩ := limO_iff.1 h
  exact e62k N a0 a1 r (hN N (Nat.le_refl N))
-- f28 spec.l6Tree
theorem call28 (args : List AV) (S : St) : evCall T (evFL T) 28 args S = lendC (evFL T 28) S (lendAll S [[2]] args) := evCall0 fn28 rfl rfl rfl args S
theorem callz28 (args : List AV) (S : St) : evCallFz T (evFL T) 28 args S = lendZ (evFL T 28) S [[0, 0, 3], [0]] (lendAll S [[2]] args) := evCallFz0 fn28 rfl rfl rfl args S
attribute [go_sem] call28 callz28
noncomputable def X28_1 (a0 : (List ReCell)) (r5 : Int) (r4 : l6T) (o : Bool) : Ex × Fr × St :=
  (.normal, frOf 24 (upd (upd anyF 2 (.ptr 0 0 0)) 3 (.bool o)), [some ⟨.box, 3, [[.int .i64 r4.kind_, .int .i64 r4.n_, .sl 1 0 r4.kids_.length]]⟩, some ⟨.arr, 3, r4.kids_.map (encl6T .own)⟩])
theorem e28_1 (a0 : (List ReCell)) (r5 : Int) (r4 : l6T) (o : Bool) (h : m28_1 a0 r5 = some o) : evCL T 0 k28_1 (frOf 24 (upd (upd (upd (upd anyF 0 (.ts .imm 2 (a0.map encReCell))) 2 (.ptr 0 0 0)) 4 (.ptr 2 0 0)) 5 (.int .i64 r5))) [some ⟨.box, 3, [[.int .i64 0, .int .i64 0, .sl 1 0 0]]⟩, some ⟨.arr, 3, []⟩, some ⟨.box, 3, [[.int .i64 r4.kind_, .int .i64 r4.n_, .sl 3 0 r4.kids_.length]]⟩, some ⟨.arr, 3, r4.kids_.map (encl6T .own)⟩] = some (X28_1 a0 r5 r4 o) := by
  unfold m28_1 at h
  try simp -implicitDefEqProofs only [go_sem, Nat.reduceLT, Nat.reduceAdd, Nat.reduceSub, Nat.reduceMul, Nat.reduceEqDiff, Nat.reduceBEq, Nat.reduceLeDiff, Int.reduceToNat, Int.reduceLT, Int.reduceLE, Int.reduceEq, reduceCtorEq, ↓reduceIte, X28_1, k28_1]
  cases b6 : (ltI 0 r5 : Bool)
  · replace h := br_f b6 h
    cases h
    simp -implicitDefEqProofs only [go_sem, Nat.reduceLT, Nat.reduceAdd, Nat.reduceSub, Nat.reduceMul, Nat.reduceEqDiff, Nat.reduceBEq, Nat.reduceLeDiff, Int.reduceToNat, Int.reduceLT, Int.reduceLE, Int.reduceEq, reduceCtorEq, ↓reduceIte, X28_1, k28_1, b6]
  · replace h := br_t b6 h
    cases h
    simp -implicitDefEqProofs only [go_sem, Nat.reduceLT, Nat.reduceAdd, Nat.reduceSub, Nat.reduceMul, Nat.reduceEqDiff, Nat.reduceBEq, Nat.reduceLeDiff, Int.reduceToNat, Int.reduceLT, Int.reduceLE, Int.reduceEq, reduceCtorEq, ↓reduceIte, X28_1, k28_1, b6]
theorem e28 (a0 : (List ReCell)) (r : (l6T × Bool)) (h : m28 a0 = some r) : evFL T 28 [.ts .imm 2 (a0.map encReCell)] [] = some (.tup [.agg [.int .i64 r.1.kind_, .int .i64 r.1.n_, .sl 0 0 r.1.kids_.length], .bool r.2], [some ⟨.arr, 3, r.1.kids_.map (encl6T .own)⟩]) := by
  unfold m28 at h
  rw [evFL_at fn28 (Nat.le_of_ble_eq_true rfl) rfl (.inr rfl) ⟨rfl, rfl⟩]
  try simp -implicitDefEqProofs only [go_sem, Nat.reduceLT, Nat.reduceAdd, Nat.reduceSub, Nat.reduceMul, Nat.reduceEqDiff, Nat.reduceBEq, Nat.reduceLeDiff, Int.reduceToNat, Int.reduceLT, Int.reduceLE, Int.reduceEq, reduceCtorEq, ↓reduceIte, i28, c28]
  cases b1 : (ltI 30 (↑a0.length : Int) : Bool)
  · replace h := br_f b1 h
    obtain ⟨⟨r4, r5⟩, q2, h⟩ := bnd_some h
    replace h := sel2_some h
    have w3 := e62 a0 0 (r4, r5) q2
    try simp -implicitDefEqProofs only [go_sem, Nat.reduceLT, Nat.reduceAdd, Nat.reduceSub, Nat.reduceMul, Nat.reduceEqDiff, Nat.reduceBEq, Nat.reduceLeDiff, Int.reduceToNat, Int.reduceLT, Int.reduceLE, Int.reduceEq, reduceCtorEq, ↓reduceIte] at w3
    obtain ⟨v9, q7, h⟩ := bnd_some h
    have w8 := e28_1 a0 r5 r4 v9 q7
    simp only [X28_1] at w8
    try simp -implicitDefEqProofs only [go_sem, Nat.reduceLT, Nat.reduceAdd, Nat.reduceSub, Nat.reduceMul, Nat.reduceEqDiff, Nat.reduceBEq, Nat.reduceLeDiff, Int.reduceToNat, Int.reduceLT, Int.reduceLE, Int.reduceEq, reduceCtorEq, ↓reduceIte] at w8
    cases h
    simp -implicitDefEqProofs only [go_sem, Nat.reduceLT, Nat.reduceAdd, Nat.reduceSub, Nat.reduceMul, Nat.reduceEqDiff, Nat.reduceBEq, Nat.reduceLeDiff, Int.reduceToNat, Int.reduceLT, Int.reduceLE, Int.reduceEq, reduceCtorEq, ↓reduceIte, i28, c28, b1, w3, w8]
  · replace h := br_t b1 h
    cases h
    simp -implicitDefEqProofs only [go_sem, Nat.reduceLT, Nat.reduceAdd, Nat.reduceSub, Nat.reduceMul, Nat.reduceEqDiff, Nat.reduceBEq, Nat.reduceLeDiff, Int.reduceToNat, Int.reduceLT, Int.reduceLE, Int.reduceEq, reduceCtorEq, ↓reduceIte, i28, c28, b1]
-- f29 spec.l6Path
theorem call29 (args : List AV) (S : St) : evCall T (evFL T) 29 args S = lendC (evFL T 29) S (lendAll S [[1]] args) := evCall0 fn29 rfl rfl rfl args S
theorem callz29 (args : List AV) (S : St) : evCallFz T (evFL T) 29 args S = lendZ (evFL T 29) S [[0]] (lendAll S [[1]] args) := evCallFz0 fn29 rfl rfl rfl args S
attribute [go_sem] call29 callz29
noncomputable def X29_1 (a0 : (List Int)) (p1 : Int) (o : (Unit ⊕ Unit)) : Ex × Fr × St :=
  match o with
  | .inl o => (.exit 0, frOf 18 (upd anyF 0 (.ts .imm 1 (a0.map encInt))), [])
  | .inr o => (.ret, frOf 18 (upd anyF 2 (.bool false)), [])
noncomputable def E29_1 (a0 : (List Int)) (p1 : Int) (s : Int) : Fr × St := (frOf 18 (upd (upd (upd (upd anyF 0 (.ts .imm 1 (a0.map encInt))) 5 (.ts .imm 1 (a0.map encInt))) 6 (.int .i64 p1)) 7 (.int .i64 s)), [])
theorem b29_1 (a0 : (List Int)) (p1 : Int) (s : Int) (o : Ctl Int (Unit ⊕ Unit)) (h : m29_1b a0 p1 s = some o) : evCL T 0 k29_1b (E29_1 a0 p1 s).1 (E29_1 a0 p1 s).2 = some (ctlX (E29_1 a0 p1) (X29_1 a0 p1) o) := by
  unfold m29_1b at h
  revert h
  generalize s = s12
  intro h
  try simp -implicitDefEqProofs only [go_sem, Nat.reduceLT, Nat.reduceAdd, Nat.reduceSub, Nat.reduceMul, Nat.reduceEqDiff, Nat.reduceBEq, Nat.reduceLeDiff, Int.reduceToNat, Int.reduceLT, Int.reduceLE, Int.reduceEq, reduceCtorEq, ↓reduceIte, E29_1, X29_1, k29_1b]
  cases b13 : (ltI s12 p1 : Bool)
  · replace h := br_f b13 h
    cases h
    simp -implicitDefEqProofs only [go_sem, Nat.reduceLT, Nat.reduceAdd, Nat.reduceSub, Nat.reduceMul, Nat.reduceEqDiff, Nat.reduceBEq, Nat.reduceLeDiff, Int.reduceToNat, Int.reduceLT, Int.reduceLE, Int.reduceEq, reduceCtorEq, ↓reduceIte, E29_1, X29_1, k29_1b, b13]
  · replace h := br_t b13 h
    obtain ⟨x14, q15, h⟩ := bnd_some h
    obtain ⟨g16, g17, g18⟩ := idx_row encInt q15
    try simp -implicitDefEqProofs only [go_sem, Nat.reduceLT, Nat.reduceAdd, Nat.reduceSub, Nat.reduceMul, Nat.reduceEqDiff, Nat.reduceBEq, Nat.reduceLeDiff, Int.reduceToNat, Int.reduceLT, Int.reduceLE, Int.reduceEq, reduceCtorEq, ↓reduceIte] at g17
    try simp -implicitDefEqProofs only [go_sem, Nat.reduceLT, Nat.reduceAdd, Nat.reduceSub, Nat.reduceMul, Nat.reduceEqDiff, Nat.reduceBEq, Nat.reduceLeDiff, Int.reduceToNat, Int.reduceLT, Int.reduceLE, Int.reduceEq, reduceCtorEq, ↓reduceIte] at g18
    obtain ⟨r21, q19, h⟩ := bnd_some h
    have w20 := e36 x14 1 65535 r21 q19
    try simp -implicitDefEqProofs only [go_sem, Nat.reduceLT, Nat.reduceAdd, Nat.reduceSub, Nat.reduceMul, Nat.reduceEqDiff, Nat.reduceBEq, Nat.reduceLeDiff, Int.reduceToNat, Int.reduceLT, Int.reduceLE, Int.reduceEq, reduceCtorEq, ↓reduceIte] at w20
    try simp -implicitDefEqProofs only [go_sem, Nat.reduceLT, Nat.reduceAdd, Nat.reduceSub, Nat.reduceMul, Nat.reduceEqDiff, Nat.reduceBEq, Nat.reduceLeDiff, Int.reduceToNat, Int.reduceLT, Int.reduceLE, Int.reduceEq, reduceCtorEq, ↓reduceIte, E29_1, X29_1, k29_1b, b13, g16, g17, g18, w20]
    cases b22 : (r21 : Bool)
    · replace h := br_f b22 h
      cases h
      simp -implicitDefEqProofs only [go_sem, Nat.reduceLT, Nat.reduceAdd, Nat.reduceSub, Nat.reduceMul, Nat.reduceEqDiff, Nat.reduceBEq, Nat.reduceLeDiff, Int.reduceToNat, Int.reduceLT, Int.reduceLE, Int.reduceEq, reduceCtorEq, ↓reduceIte, E29_1, X29_1, k29_1b, b13, g16, g17, g18, w20, b22]
    · replace h := br_t b22 h
      cases h
      simp -implicitDefEqProofs only [go_sem, Nat.reduceLT, Nat.reduceAdd, Nat.reduceSub, Nat.reduceMul, Nat.reduceEqDiff, Nat.reduceBEq, Nat.reduceLeDiff, Int.reduceToNat, Int.reduceLT, Int.reduceLE, Int.reduceEq, reduceCtorEq, ↓reduceIte, E29_1, X29_1, k29_1b, b13, g16, g17, g18, w20, b22]
theorem e29_1 (a0 : (List Int)) (p1 : Int) (s : Int) (o : (Unit ⊕ Unit)) (h : loopP (m29_1b a0 p1) s = some o) : evCL T 0 (.loop k29_1b) (E29_1 a0 p1 s).1 (E29_1 a0 p1 s).2 = some (X29_1 a0 p1 o) :=
  loop_walk (E := E29_1 a0 p1) (X := X29_1 a0 p1) (by intro b; rcases b with b | b <;> (simp only [X29_1]; nofun)) (b29_1 a0 p1) s o h
theorem e29 (a0 : (List Int)) (r : Bool) (h : m29 a0 = some r) : evFL T 29 [.ts .imm 1 (a0.map encInt)] [] = some (.bool r, []) := by
  unfold m29 at h
  rw [evFL_at fn29 (Nat.le_of_ble_eq_true rfl) rfl (.inr rfl) ⟨rfl, rfl⟩]
  try simp -implicitDefEqProofs only [go_sem, Nat.reduceLT, Nat.reduceAdd, Nat.reduceSub, Nat.reduceMul, Nat.reduceEqDiff, Nat.reduceBEq, Nat.reduceLeDiff, Int.reduceToNat, Int.reduceLT, Int.reduceLE, Int.reduceEq, reduceCtorEq, ↓reduceIte, i29, c29]
  obtain ⟨o, q23, h⟩ := bnd_some h
  rcases o with ⟨⟩ | ⟨⟩
  · replace h := selS_l h
    have w24 := e29_1 a0 (↑a0.length : Int) 0 (.inl ()) q23
    simp only [E29_1, X29_1] at w24
    try simp -implicitDefEqProofs only [go_sem, Nat.reduceLT, Nat.reduceAdd, Nat.reduceSub, Nat.reduceMul, Nat.reduceEqDiff, Nat.reduceBEq, Nat.reduceLeDiff, Int.reduceToNat, Int.reduceLT, Int.reduceLE, Int.reduceEq, reduceCtorEq, ↓reduceIte] at w24
    cases h
    simp -implicitDefEqProofs only [go_sem, Nat.reduceLT, Nat.reduceAdd, Nat.reduceSub, Nat.reduceMul, Nat.reduceEqDiff, Nat.reduceBEq, Nat.reduceLeDiff, Int.reduceToNat, Int.reduceLT, Int.reduceLE, Int.reduceEq, reduceCtorEq, ↓reduceIte, i29, c29, w24]
  · replace h := selS_r h
    have w24 := e29_1 a0 (↑a0.length : Int) 0 (.inr ()) q23
    simp only [E29_1, X29_1] at w24
    try simp -implicitDefEqProofs only [go_sem, Nat.reduceLT, Nat.reduceAdd, Nat.reduceSub, Nat.reduceMul, Nat.reduceEqDiff, Nat.reduceBEq, Nat.reduceLeDiff, Int.reduceToNat, Int.reduceLT, Int.reduceLE, Int.reduceEq, reduceCtorEq, ↓reduceIte] at w24
    cases h
    simp -implicitDefEqProofs only [go_sem, Nat.reduceLT, Nat.reduceAdd, Nat.reduceSub, Nat.reduceMul, Nat.reduceEqDiff, Nat.reduceBEq, Nat.reduceLeDiff, Int.reduceToNat, Int.reduceLT, Int.reduceLE, Int.reduceEq, reduceCtorEq, ↓reduceIte, i29, c29, w24]
-- f61 spec.l1Put
theorem call61 (args : List AV) (S : St) : evCall T (evFL T) 61 args S = c3A true true (evFL T 61) (rawAll S [[1], [0]] args) := evCall3_g fn61 rfl (fun h => absurd h.1 (by decide)) args S
attribute [go_sem] call61
noncomputable def X61_3 (a1 : Int) (s11 : Int) (a0 : (List Int)) (o : Bool) : Ex × Fr × St :=
  (.normal, frOf 48 (upd (upd (upd (upd anyF 0 (.sl 1 0 a0.length)) 1 (.int .i64 a1)) 5 (.int .i64 s11)) 18 (.bool o)), [none, some ⟨.arr, 1, a0.map encInt⟩])
theorem e61_3 (a1 : Int) (s11 : Int) (a0 : (List Int)) (o : Bool) (h : m61_3 a1 s11 a0 = some o) : evCL T 1 k61_3 (frOf 48 (upd (upd (upd anyF 0 (.sl 1 0 a0.length)) 1 (.int .i64 a1)) 5 (.int .i64 s11))) [none, some ⟨.arr, 1, a0.map encInt⟩] = some (X61_3 a1 s11 a0 o) := by
  unfold m61_3 at h
  try simp -implicitDefEqProofs only [go_sem, Nat.reduceLT, Nat.reduceAdd, Nat.reduceSub, Nat.reduceMul, Nat.reduceEqDiff, Nat.reduceBEq, Nat.reduceLeDiff, Int.reduceToNat, Int.reduceLT, Int.reduceLE, Int.reduceEq, reduceCtorEq, ↓reduceIte, X61_3, k61_3]
  cases b12 : (ltI s11 (↑a0.length : Int) : Bool)
  · replace h := br_f b12 h
    cases h
    simp -implicitDefEqProofs only [go_sem, Nat.reduceLT, Nat.reduceAdd, Nat.reduceSub, Nat.reduceMul, Nat.reduceEqDiff, Nat.reduceBEq, Nat.reduceLeDiff, Int.reduceToNat, Int.reduceLT, Int.reduceLE, Int.reduceEq, reduceCtorEq, ↓reduceIte, X61_3, k61_3, b12]
  · replace h := br_t b12 h
    obtain ⟨x13, q14, h⟩ := bnd_some h
    obtain ⟨g15, g16, g17⟩ := idx_row encInt q14
    try simp -implicitDefEqProofs only [go_sem, Nat.reduceLT, Nat.reduceAdd, Nat.reduceSub, Nat.reduceMul, Nat.reduceEqDiff, Nat.reduceBEq, Nat.reduceLeDiff, Int.reduceToNat, Int.reduceLT, Int.reduceLE, Int.reduceEq, reduceCtorEq, ↓reduceIte] at g16
    try simp -implicitDefEqProofs only [go_sem, Nat.reduceLT, Nat.reduceAdd, Nat.reduceSub, Nat.reduceMul, Nat.reduceEqDiff, Nat.reduceBEq, Nat.reduceLeDiff, Int.reduceToNat, Int.reduceLT, Int.reduceLE, Int.reduceEq, reduceCtorEq, ↓reduceIte] at g17
    cases h
    simp -implicitDefEqProofs only [go_sem, Nat.reduceLT, Nat.reduceAdd, Nat.reduceSub, Nat.reduceMul, Nat.reduceEqDiff, Nat.reduceBEq, Nat.reduceLeDiff, Int.reduceToNat, Int.reduceLT, Int.reduceLE, Int.reduceEq, reduceCtorEq, ↓reduceIte, X61_3, k61_3, b12, g15, g16, g17]
noncomputable def X61_1 (a1 : Int) (a0 : (List Int)) (o : Int) : Ex × Fr × St :=
  (.exit 0, frOf 48 (upd (upd (upd anyF 0 (.sl 1 0 a0.length)) 1 (.int .i64 a1)) 5 (.int .i64 o)), [none, some ⟨.arr, 1, a0.map encInt⟩])
noncomputable def E61_1 (a1 : Int) (a0 : (List Int)) (s : Int) : Fr × St := (frOf 48 (upd (upd (upd anyF 0 (.sl 1 0 a0.length)) 1 (.int .i64 a1)) 5 (.int .i64 s)), [none, some ⟨.arr, 1, a0.map encInt⟩])
theorem b61_1 (a1 : Int) (a0 : (List Int)) (s : Int) (o : Ctl Int Int) (h : m61_1b a1 a0 s = some o) : evCL T 1 k61_1b (E61_1 a1 a0 s).1 (E61_1 a1 a0 s).2 = some (ctlX (E61_1 a1 a0) (X61_1 a1 a0) o) := by
  unfold m61_1b at h
  revert h
  generalize s = s11
  intro h
  obtain ⟨v20, q18, h⟩ := bnd_some h
  have w19 := e61_3 a1 s11 a0 v20 q18
  simp only [X61_3] at w19
  try simp -implicitDefEqProofs only [go_sem, Nat.reduceLT, Nat.reduceAdd, Nat.reduceSub, Nat.reduceMul, Nat.reduceEqDiff, Nat.reduceBEq, Nat.reduceLeDiff, Int.reduceToNat, Int.reduceLT, Int.reduceLE, Int.reduceEq, reduceCtorEq, ↓reduceIte] at w19
  try simp -implicitDefEqProofs only [go_sem, Nat.reduceLT, Nat.reduceAdd, Nat.reduceSub, Nat.reduceMul, Nat.reduceEqDiff, Nat.reduceBEq, Nat.reduceLeDiff, Int.reduceToNat, Int.reduceLT, Int.reduceLE, Int.reduceEq, reduceCtorEq, ↓reduceIte, E61_1, X61_1, k61_1b, w19]
  cases b21 : (v20 : Bool)
  · replace h := br_f b21 h
    cases h
    simp -implicitDefEqProofs only [go_sem, Nat.reduceLT, Nat.reduceAdd, Nat.reduceSub, Nat.reduceMul, Nat.reduceEqDiff, Nat.reduceBEq, Nat.reduceLeDiff, Int.reduceToNat, Int.reduceLT, Int.reduceLE, Int.reduceEq, reduceCtorEq, ↓reduceIte, E61_1, X61_1, k61_1b, w19, b21]
  · replace h := br_t b21 h
    cases h
    simp -implicitDefEqProofs only [go_sem, Nat.reduceLT, Nat.reduceAdd, Nat.reduceSub, Nat.reduceMul, Nat.reduceEqDiff, Nat.reduceBEq, Nat.reduceLeDiff, Int.reduceToNat, Int.reduceLT, Int.reduceLE, Int.reduceEq, reduceCtorEq, ↓reduceIte, E61_1, X61_1, k61_1b, w19, b21]
theorem e61_1 (a1 : Int) (a0 : (List Int)) (s : Int) (o : Int) (h : loopP (m61_1b a1 a0) s = some o) : evCL T 1 (.loop k61_1b) (E61_1 a1 a0 s).1 (E61_1 a1 a0 s).2 = some (X61_1 a1 a0 o) :=
  loop_walk (E := E61_1 a1 a0) (X := X61_1 a1 a0) (by intro b; (simp only [X61_1]; nofun)) (b61_1 a1 a0) s o h
noncomputable def X61_4 (a1 : Int) (v24 : Int) (a0 : (List Int)) (o : Bool) : Ex × Fr × St :=
  (.normal, frOf 48 (upd (upd (upd (upd anyF 0 (.sl 1 0 a0.length)) 1 (.int .i64 a1)) 5 (.int .i64 v24)) 32 (.bool o)), [none, some ⟨.arr, 1, a0.map encInt⟩])
theorem e61_4 (a1 : Int) (v24 : Int) (a0 : (List Int)) (o : Bool) (h : m61_4 a1 v24 a0 = some o) : evCL T 1 k61_4 (frOf 48 (upd (upd (upd anyF 0 (.sl 1 0 a0.length)) 1 (.int .i64 a1)) 5 (.int .i64 v24))) [none, some ⟨.arr, 1, a0.map encInt⟩] = some (X61_4 a1 v24 a0 o) := by
  unfold m61_4 at h
  try simp -implicitDefEqProofs only [go_sem, Nat.reduceLT, Nat.reduceAdd, Nat.reduceSub, Nat.reduceMul, Nat.reduceEqDiff, Nat.reduceBEq, Nat.reduceLeDiff, Int.reduceToNat, Int.reduceLT, Int.reduceLE, Int.reduceEq, reduceCtorEq, ↓reduceIte, X61_4, k61_4]
  cases b25 : (ltI v24 (↑a0.length : Int) : Bool)
  · replace h := br_f b25 h
    cases h
    simp -implicitDefEqProofs only [go_sem, Nat.reduceLT, Nat.reduceAdd, Nat.reduceSub, Nat.reduceMul, Nat.reduceEqDiff, Nat.reduceBEq, Nat.reduceLeDiff, Int.reduceToNat, Int.reduceLT, Int.reduceLE, Int.reduceEq, reduceCtorEq, ↓reduceIte, X61_4, k61_4, b25]
  · replace h := br_t b25 h
    obtain ⟨x26, q27, h⟩ := bnd_some h
    obtain ⟨g28, g29, g30⟩ := idx_row encInt q27
    try simp -implicitDefEqProofs only [go_sem, Nat.reduceLT, Nat.reduceAdd, Nat.reduceSub, Nat.reduceMul, Nat.reduceEqDiff, Nat.reduceBEq, Nat.reduceLeDiff, Int.reduceToNat, Int.reduceLT, Int.reduceLE, Int.reduceEq, reduceCtorEq, ↓reduceIte] at g29
    try simp -implicitDefEqProofs only [go_sem, Nat.reduceLT, Nat.reduceAdd, Nat.reduceSub, Nat.reduceMul, Nat.reduceEqDiff, Nat.reduceBEq, Nat.reduceLeDiff, Int.reduceToNat, Int.reduceLT, Int.reduceLE, Int.reduceEq, reduceCtorEq, ↓reduceIte] at g30
    cases h
    simp -implicitDefEqProofs only [go_sem, Nat.reduceLT, Nat.reduceAdd, Nat.reduceSub, Nat.reduceMul, Nat.reduceEqDiff, Nat.reduceBEq, Nat.reduceLeDiff, Int.reduceToNat, Int.reduceLT, Int.reduceLE, Int.reduceEq, reduceCtorEq, ↓reduceIte, X61_4, k61_4, b25, g28, g29, g30]
theorem e61 (a0 : (List Int)) (a1 : Int) (r : List Int) (h : m61 a0 a1 = some r) : evFL T 61 [.sl 0 0 a0.length, .int .i64 a1] [some ⟨.arr, 1, a0.map encInt⟩] = some (.sl 1 0 r.length, [none, some ⟨.arr, 1, r.map encInt⟩]) := by
  unfold m61 at h
  rw [evFL_at fn61 (Nat.le_of_ble_eq_true rfl) rfl (.inl rfl) ⟨rfl, rfl⟩]
  obtain ⟨v24, q22, h⟩ := bnd_some h
  have w23 := e61_1 a1 a0 0 v24 q22
  simp only [E61_1, X61_1] at w23
  try simp -implicitDefEqProofs only [go_sem, Nat.reduceLT, Nat.reduceAdd, Nat.reduceSub, Nat.reduceMul, Nat.reduceEqDiff, Nat.reduceBEq, Nat.reduceLeDiff, Int.reduceToNat, Int.reduceLT, Int.reduceLE, Int.reduceEq, reduceCtorEq, ↓reduceIte] at w23
  obtain ⟨v33, q31, h⟩ := bnd_some h
  have w32 := e61_4 a1 v24 a0 v33 q31
  simp only [X61_4] at w32
  try simp -implicitDefEqProofs only [go_sem, Nat.reduceLT, Nat.reduceAdd, Nat.reduceSub, Nat.reduceMul, Nat.reduceEqDiff, Nat.reduceBEq, Nat.reduceLeDiff, Int.reduceToNat, Int.reduceLT, Int.reduceLE, Int.reduceEq, reduceCtorEq, ↓reduceIte] at w32
  try simp -implicitDefEqProofs only [go_sem, Nat.reduceLT, Nat.reduceAdd, Nat.reduceSub, Nat.reduceMul, Nat.reduceEqDiff, Nat.reduceBEq, Nat.reduceLeDiff, Int.reduceToNat, Int.reduceLT, Int.reduceLE, Int.reduceEq, reduceCtorEq, ↓reduceIte, i61, c61, w23, w32]
  cases b34 : (v33 : Bool)
  · replace h := br_f b34 h
    obtain ⟨g35, h⟩ := ck_some h
    try simp -implicitDefEqProofs only [go_sem, Nat.reduceLT, Nat.reduceAdd, Nat.reduceSub, Nat.reduceMul, Nat.reduceEqDiff, Nat.reduceBEq, Nat.reduceLeDiff, Int.reduceToNat, Int.reduceLT, Int.reduceLE, Int.reduceEq, reduceCtorEq, ↓reduceIte] at g35
    have g36 : 0 + (v24.toNat) ≤ a0.length := by (try simp only [List.length_take, List.length_drop, List.length_append, List.length_set, List.length_cons, List.length_nil]); omega
    have g37 : v24.toNat ≤ a0.length := by (try simp only [List.length_take, List.length_drop, List.length_append, List.length_set, List.length_cons, List.length_nil]); omega
    obtain ⟨g38, h⟩ := ck_some h
    try simp -implicitDefEqProofs only [go_sem, Nat.reduceLT, Nat.reduceAdd, Nat.reduceSub, Nat.reduceMul, Nat.reduceEqDiff, Nat.reduceBEq, Nat.reduceLeDiff, Int.reduceToNat, Int.reduceLT, Int.reduceLE, Int.reduceEq, reduceCtorEq, ↓reduceIte] at g38
    try simp -implicitDefEqProofs only [go_sem, Nat.reduceLT, Nat.reduceAdd, Nat.reduceSub, Nat.reduceMul, Nat.reduceEqDiff, Nat.reduceBEq, Nat.reduceLeDiff, Int.reduceToNat, Int.reduceLT, Int.reduceLE, Int.reduceEq, reduceCtorEq, ↓reduceIte, g36, g37] at g38
    obtain ⟨g39, h⟩ := ck_some h
    try simp -implicitDefEqProofs only [go_sem, Nat.reduceLT, Nat.reduceAdd, Nat.reduceSub, Nat.reduceMul, Nat.reduceEqDiff, Nat.reduceBEq, Nat.reduceLeDiff, Int.reduceToNat, Int.reduceLT, Int.reduceLE, Int.reduceEq, reduceCtorEq, ↓reduceIte] at g39
    try simp -implicitDefEqProofs only [go_sem, Nat.reduceLT, Nat.reduceAdd, Nat.reduceSub, Nat.reduceMul, Nat.reduceEqDiff, Nat.reduceBEq, Nat.reduceLeDiff, Int.reduceToNat, Int.reduceLT, Int.reduceLE, Int.reduceEq, reduceCtorEq, ↓reduceIte, g36, g37] at g39
    obtain ⟨g40, h⟩ := ck_some h
    try simp -implicitDefEqProofs only [go_sem, Nat.reduceLT, Nat.reduceAdd, Nat.reduceSub, Nat.reduceMul, Nat.reduceEqDiff, Nat.reduceBEq, Nat.reduceLeDiff, Int.reduceToNat, Int.reduceLT, Int.reduceLE, Int.reduceEq, reduceCtorEq, ↓reduceIte] at g40
    have g41 : v24.toNat + (a0.length - v24.toNat) ≤ a0.length := by (try simp only [List.length_take, List.length_drop, List.length_append, List.length_set, List.length_cons, List.length_nil]); omega
    obtain ⟨g42, h⟩ := ck_some h
    try simp -implicitDefEqProofs only [go_sem, Nat.reduceLT, Nat.reduceAdd, Nat.reduceSub, Nat.reduceMul, Nat.reduceEqDiff, Nat.reduceBEq, Nat.reduceLeDiff, Int.reduceToNat, Int.reduceLT, Int.reduceLE, Int.reduceEq, reduceCtorEq, ↓reduceIte] at g42
    try simp -implicitDefEqProofs only [go_sem, Nat.reduceLT, Nat.reduceAdd, Nat.reduceSub, Nat.reduceMul, Nat.reduceEqDiff, Nat.reduceBEq, Nat.reduceLeDiff, Int.reduceToNat, Int.reduceLT, Int.reduceLE, Int.reduceEq, reduceCtorEq, ↓reduceIte, g36, g37, g41] at g42
    cases h
    simp -implicitDefEqProofs only [go_sem, Nat.reduceLT, Nat.reduceAdd, Nat.reduceSub, Nat.reduceMul, Nat.reduceEqDiff, Nat.reduceBEq, Nat.reduceLeDiff, Int.reduceToNat, Int.reduceLT, Int.reduceLE, Int.reduceEq, reduceCtorEq, ↓reduceIte, i61, c61, w23, w32, b34, g35, g36, g37, g38, g39, g40, g41, g42]
  · replace h := br_t b34 h
    cases h
    simp -implicitDefEqProofs only [go_sem, Nat.reduceLT, Nat.reduceAdd, Nat.reduceSub, Nat.reduceMul, Nat.reduceEqDiff, Nat.reduceBEq, Nat.reduceLeDiff, Int.reduceToNat, Int.reduceLT, Int.reduceLE, Int.reduceEq, reduceCtorEq, ↓reduceIte, i61, c61, w23, w32, b34]
-- f31 spec.l6Ends
theorem call31 (args : List AV) (S : St) : evCall T (evFL T) 31 args S = lendC (evFL T 31) S (lendAll S [[0, 0, 3], [1], [0]] args) := evCall0 fn31 rfl rfl rfl args S
theorem callz31 (args : List AV) (S : St) : evCallFz T (evFL T) 31 args S = lendZ (evFL T 31) S [[1]] (lendAll S [[0, 0, 3], [1], [0]] args) := evCallFz0 fn31 rfl rfl rfl args S
attribute [go_sem] call31 callz31
noncomputable def X31_1 (a1 : (List Int)) (a2 : Int) (a0 : l6T) (p2 : Bool) (o : Bool) : Ex × Fr × St :=
  (.normal, frOf 145 (upd (upd (upd (upd (upd anyF 1 (.ts .imm 1 (a1.map encInt))) 2 (.int .i64 a2)) 3 (.ptr 0 0 0)) 22 (.int .i64 a0.kind_)) 27 (.bool o)), [some ⟨.box, 3, [[.int .i64 a0.kind_, .int .i64 a0.n_, .ts .imm 3 (a0.kids_.map (encl6T .imm))]]⟩])
theorem e31_1 (rc : l6T → (List Int) → Int → Option (List Int)) (hrc : ∀ (a0 : l6T) (a1 : (List Int)) (a2 : Int) (r : (List Int)), rc a0 a1 a2 = some r → evFL T 31 [.agg [.int .i64 a0.kind_, .int .i64 a0.n_, .ts .imm 3 (a0.kids_.map (encl6T .imm))], .ts .imm 1 (a1.map encInt), .int .i64 a2] [] = some (.sl 0 0 r.length, [some ⟨.arr, 1, r.map encInt⟩])) (a1 : (List Int)) (a2 : Int) (a0 : l6T) (p2 : Bool) (o : Bool) (h : m31_1 rc a0 p2 = some o) : evCL T 0 k31_1 (frOf 145 (upd (upd (upd (upd (upd anyF 1 (.ts .imm 1 (a1.map encInt))) 2 (.int .i64 a2)) 3 (.ptr 0 0 0)) 22 (.int .i64 a0.kind_)) 27 (.bool p2))) [some ⟨.box, 3, [[.int .i64 a0.kind_, .int .i64 a0.n_, .ts .imm 3 (a0.kids_.map (encl6T .imm))]]⟩] = some (X31_1 a1 a2 a0 p2 o) := by
  unfold m31_1 at h
  try simp -implicitDefEqProofs only [go_sem, Nat.reduceLT, Nat.reduceAdd, Nat.reduceSub, Nat.reduceMul, Nat.reduceEqDiff, Nat.reduceBEq, Nat.reduceLeDiff, Int.reduceToNat, Int.reduceLT, Int.reduceLE, Int.reduceEq, reduceCtorEq, ↓reduceIte, X31_1, k31_1]
  cases b3 : (p2 : Bool)
  · replace h := br_f b3 h
    cases h
    simp -implicitDefEqProofs only [go_sem, Nat.reduceLT, Nat.reduceAdd, Nat.reduceSub, Nat.reduceMul, Nat.reduceEqDiff, Nat.reduceBEq, Nat.reduceLeDiff, Int.reduceToNat, Int.reduceLT, Int.reduceLE, Int.reduceEq, reduceCtorEq, ↓reduceIte, X31_1, k31_1, b3]
  · replace h := br_t b3 h
    cases h
    simp -implicitDefEqProofs only [go_sem, Nat.reduceLT, Nat.reduceAdd, Nat.reduceSub, Nat.reduceMul, Nat.reduceEqDiff, Nat.reduceBEq, Nat.reduceLeDiff, Int.reduceToNat, Int.reduceLT, Int.reduceLE, Int.reduceEq, reduceCtorEq, ↓reduceIte, X31_1, k31_1, b3]
noncomputable def X31_3 (a1 : (List Int)) (a2 : Int) (a0 : l6T) (o : Bool) : Ex × Fr × St :=
  (.normal, frOf 145 (upd (upd anyF 2 (.int .i64 a2)) 47 (.bool o)), [])
theorem e31_3 (rc : l6T → (List Int) → Int → Option (List Int)) (hrc : ∀ (a0 : l6T) (a1 : (List Int)) (a2 : Int) (r : (List Int)), rc a0 a1 a2 = some r → evFL T 31 [.agg [.int .i64 a0.kind_, .int .i64 a0.n_, .ts .imm 3 (a0.kids_.map (encl6T .imm))], .ts .imm 1 (a1.map encInt), .int .i64 a2] [] = some (.sl 0 0 r.length, [some ⟨.arr, 1, r.map encInt⟩])) (a1 : (List Int)) (a2 : Int) (a0 : l6T) (o : Bool) (h : m31_3 rc a1 a2 a0 = some o) : evCL T 0 k31_3 (frOf 145 (upd (upd (upd anyF 1 (.ts .imm 1 (a1.map encInt))) 2 (.int .i64 a2)) 3 (.ptr 0 0 0))) [some ⟨.box, 3, [[.int .i64 a0.kind_, .int .i64 a0.n_, .ts .imm 3 (a0.kids_.map (encl6T .imm))]]⟩] = some (X31_3 a1 a2 a0 o) := by
  unfold m31_3 at h
  try simp -implicitDefEqProofs only [go_sem, Nat.reduceLT, Nat.reduceAdd, Nat.reduceSub, Nat.reduceMul, Nat.reduceEqDiff, Nat.reduceBEq, Nat.reduceLeDiff, Int.reduceToNat, Int.reduceLT, Int.reduceLE, Int.reduceEq, reduceCtorEq, ↓reduceIte, X31_3, k31_3]
  cases b8 : (ltI a2 (↑a1.length : Int) : Bool)
  · replace h := br_f b8 h
    cases h
    simp -implicitDefEqProofs only [go_sem, Nat.reduceLT, Nat.reduceAdd, Nat.reduceSub, Nat.reduceMul, Nat.reduceEqDiff, Nat.reduceBEq, Nat.reduceLeDiff, Int.reduceToNat, Int.reduceLT, Int.reduceLE, Int.reduceEq, reduceCtorEq, ↓reduceIte, X31_3, k31_3, b8]
  · replace h := br_t b8 h
    try simp -implicitDefEqProofs only [go_sem, Nat.reduceLT, Nat.reduceAdd, Nat.reduceSub, Nat.reduceMul, Nat.reduceEqDiff, Nat.reduceBEq, Nat.reduceLeDiff, Int.reduceToNat, Int.reduceLT, Int.reduceLE, Int.reduceEq, reduceCtorEq, ↓reduceIte, X31_3, k31_3, b8]
    cases b9 : (eqI a0.kind_ 4 : Bool)
    · replace h := br_f b9 h
      obtain ⟨x10, q11, h⟩ := bnd_some h
      obtain ⟨g12, g13, g14⟩ := idx_row encInt q11
      try simp -implicitDefEqProofs only [go_sem, Nat.reduceLT, Nat.reduceAdd, Nat.reduceSub, Nat.reduceMul, Nat.reduceEqDiff, Nat.reduceBEq, Nat.reduceLeDiff, Int.reduceToNat, Int.reduceLT, Int.reduceLE, Int.reduceEq, reduceCtorEq, ↓reduceIte] at g13
      try simp -implicitDefEqProofs only [go_sem, Nat.reduceLT, Nat.reduceAdd, Nat.reduceSub, Nat.reduceMul, Nat.reduceEqDiff, Nat.reduceBEq, Nat.reduceLeDiff, Int.reduceToNat, Int.reduceLT, Int.reduceLE, Int.reduceEq, reduceCtorEq, ↓reduceIte] at g14
      cases h
      simp -implicitDefEqProofs only [go_sem, Nat.reduceLT, Nat.reduceAdd, Nat.reduceSub, Nat.reduceMul, Nat.reduceEqDiff, Nat.reduceBEq, Nat.reduceLeDiff, Int.reduceToNat, Int.reduceLT, Int.reduceLE, Int.reduceEq, reduceCtorEq, ↓reduceIte, X31_3, k31_3, b8, b9, g12, g13, g14]
    · replace h := br_t b9 h
      cases h
      simp -implicitDefEqProofs only [go_sem, Nat.reduceLT, Nat.reduceAdd, Nat.reduceSub, Nat.reduceMul, Nat.reduceEqDiff, Nat.reduceBEq, Nat.reduceLeDiff, Int.reduceToNat, Int.reduceLT, Int.reduceLE, Int.reduceEq, reduceCtorEq, ↓reduceIte, X31_3, k31_3, b8, b9]
noncomputable def X31_4 (p36 : Int) (r35 : (List Int)) (o : (List Int)) : Ex × Fr × St :=
  (.exit 1, frOf 145 (upd anyF 7 (.sl 0 0 o.length)), [some ⟨.arr, 1, o.map encInt⟩])
noncomputable def E31_4 (p36 : Int) (r35 : (List Int)) (s : (Int × List Int)) : Fr × St := (frOf 145 (upd (upd (upd (upd anyF 7 (.sl 0 0 s.2.length)) 66 (.sl 1 0 r35.length)) 67 (.int .i64 p36)) 68 (.int .i64 s.1)), [some ⟨.arr, 1, s.2.map encInt⟩, some ⟨.arr, 1, r35.map encInt⟩])
theorem b31_4 (rc : l6T → (List Int) → Int → Option (List Int)) (hrc : ∀ (a0 : l6T) (a1 : (List Int)) (a2 : Int) (r : (List Int)), rc a0 a1 a2 = some r → evFL T 31 [.agg [.int .i64 a0.kind_, .int .i64 a0.n_, .ts .imm 3 (a0.kids_.map (encl6T .imm))], .ts .imm 1 (a1.map encInt), .int .i64 a2] [] = some (.sl 0 0 r.length, [some ⟨.arr, 1, r.map encInt⟩])) (p36 : Int) (r35 : (List Int)) (s : (Int × List Int)) (o : Ctl (Int × List Int) (List Int)) (h : m31_4b rc p36 r35 s = some o) : evCL T 0 k31_4b (E31_4 p36 r35 s).1 (E31_4 p36 r35 s).2 = some (ctlX (E31_4 p36 r35) (X31_4 p36 r35) o) := by
  unfold m31_4b at h
  obtain ⟨s46, s47⟩ := s
  replace h := sel2_some h
  try simp -implicitDefEqProofs only [go_sem, Nat.reduceLT, Nat.reduceAdd, Nat.reduceSub, Nat.reduceMul, Nat.reduceEqDiff, Nat.reduceBEq, Nat.reduceLeDiff, Int.reduceToNat, Int.reduceLT, Int.reduceLE, Int.reduceEq, reduceCtorEq, ↓reduceIte, E31_4, X31_4, k31_4b]
  cases b48 : (ltI s46 p36 : Bool)
  · replace h := br_f b48 h
    cases h
    simp -implicitDefEqProofs only [go_sem, Nat.reduceLT, Nat.reduceAdd, Nat.reduceSub, Nat.reduceMul, Nat.reduceEqDiff, Nat.reduceBEq, Nat.reduceLeDiff, Int.reduceToNat, Int.reduceLT, Int.reduceLE, Int.reduceEq, reduceCtorEq, ↓reduceIte, E31_4, X31_4, k31_4b, b48]
  · replace h := br_t b48 h
    obtain ⟨x49, q50, h⟩ := bnd_some h
    obtain ⟨g51, g52, g53⟩ := idx_row encInt q50
    try simp -implicitDefEqProofs only [go_sem, Nat.reduceLT, Nat.reduceAdd, Nat.reduceSub, Nat.reduceMul, Nat.reduceEqDiff, Nat.reduceBEq, Nat.reduceLeDiff, Int.reduceToNat, Int.reduceLT, Int.reduceLE, Int.reduceEq, reduceCtorEq, ↓reduceIte] at g52
    try simp -implicitDefEqProofs only [go_sem, Nat.reduceLT, Nat.reduceAdd, Nat.reduceSub, Nat.reduceMul, Nat.reduceEqDiff, Nat.reduceBEq, Nat.reduceLeDiff, Int.reduceToNat, Int.reduceLT, Int.reduceLE, Int.reduceEq, reduceCtorEq, ↓reduceIte] at g53
    obtain ⟨r56, q54, h⟩ := bnd_some h
    have w55 := e61 s47 x49 r56 q54
    try simp -implicitDefEqProofs only [go_sem, Nat.reduceLT, Nat.reduceAdd, Nat.reduceSub, Nat.reduceMul, Nat.reduceEqDiff, Nat.reduceBEq, Nat.reduceLeDiff, Int.reduceToNat, Int.reduceLT, Int.reduceLE, Int.reduceEq, reduceCtorEq, ↓reduceIte] at w55
    cases h
    simp -implicitDefEqProofs only [go_sem, Nat.reduceLT, Nat.reduceAdd, Nat.reduceSub, Nat.reduceMul, Nat.reduceEqDiff, Nat.reduceBEq, Nat.reduceLeDiff, Int.reduceToNat, Int.reduceLT, Int.reduceLE, Int.reduceEq, reduceCtorEq, ↓reduceIte, E31_4, X31_4, k31_4b, b48, g51, g52, g53, w55]
theorem e31_4 (rc : l6T → (List Int) → Int → Option (List Int)) (hrc : ∀ (a0 : l6T) (a1 : (List Int)) (a2 : Int) (r : (List Int)), rc a0 a1 a2 = some r → evFL T 31 [.agg [.int .i64 a0.kind_, .int .i64 a0.n_, .ts .imm 3 (a0.kids_.map (encl6T .imm))], .ts .imm 1 (a1.map encInt), .int .i64 a2] [] = some (.sl 0 0 r.length, [some ⟨.arr, 1, r.map encInt⟩])) (p36 : Int) (r35 : (List Int)) (s : (Int × List Int)) (o : (List Int)) (h : loopP (m31_4b rc p36 r35) s = some o) : evCL T 0 (.loop k31_4b) (E31_4 p36 r35 s).1 (E31_4 p36 r35 s).2 = some (X31_4 p36 r35 o) :=
  loop_walk (E := E31_4 p36 r35) (X := X31_4 p36 r35) (by intro b; (simp only [X31_4]; nofun)) (b31_4 rc hrc p36 r35) s o h
noncomputable def X31_7 (a1 : (List Int)) (p69 : Int) (s108 : Int) (p124 : Int) (a0 : l6T) (r68 : (List Int)) (r123 : (List Int)) (o : (List Int)) : Ex × Fr × St :=
  (.exit 5, frOf 145 (upd (upd (upd (upd (upd (upd anyF 1 (.ts .imm 1 (a1.map encInt))) 3 (.ptr 0 0 0)) 10 (.sl 1 0 o.length)) 85 (.sl 2 0 r68.length)) 86 (.int .i64 p69)) 87 (.int .i64 s108)), [some ⟨.box, 3, [[.int .i64 a0.kind_, .int .i64 a0.n_, .ts .imm 3 (a0.kids_.map (encl6T .imm))]]⟩, some ⟨.arr, 1, o.map encInt⟩, some ⟨.arr, 1, r68.map encInt⟩])
noncomputable def E31_7 (a1 : (List Int)) (p69 : Int) (s108 : Int) (p124 : Int) (a0 : l6T) (r68 : (List Int)) (r123 : (List Int)) (s : (Int × List Int)) : Fr × St := (frOf 145 (upd (upd (upd (upd (upd (upd (upd (upd (upd anyF 1 (.ts .imm 1 (a1.map encInt))) 3 (.ptr 0 0 0)) 10 (.sl 1 0 s.2.length)) 85 (.sl 2 0 r68.length)) 86 (.int .i64 p69)) 87 (.int .i64 s108)) 97 (.sl 3 0 r123.length)) 98 (.int .i64 p124)) 99 (.int .i64 s.1)), [some ⟨.box, 3, [[.int .i64 a0.kind_, .int .i64 a0.n_, .ts .imm 3 (a0.kids_.map (encl6T .imm))]]⟩, some ⟨.arr, 1, s.2.map encInt⟩, some ⟨.arr, 1, r68.map encInt⟩, some ⟨.arr, 1, r123.map encInt⟩])
theorem b31_7 (rc : l6T → (List Int) → Int → Option (List Int)) (hrc : ∀ (a0 : l6T) (a1 : (List Int)) (a2 : Int) (r : (List Int)), rc a0 a1 a2 = some r → evFL T 31 [.agg [.int .i64 a0.kind_, .int .i64 a0.n_, .ts .imm 3 (a0.kids_.map (encl6T .imm))], .ts .imm 1 (a1.map encInt), .int .i64 a2] [] = some (.sl 0 0 r.length, [some ⟨.arr, 1, r.map encInt⟩])) (a1 : (List Int)) (p69 : Int) (s108 : Int) (p124 : Int) (a0 : l6T) (r68 : (List Int)) (r123 : (List Int)) (s : (Int × List Int)) (o : Ctl (Int × List Int) (List Int)) (h : m31_7b rc p124 r123 s = some o) : evCL T 0 k31_7b (E31_7 a1 p69 s108 p124 a0 r68 r123 s).1 (E31_7 a1 p69 s108 p124 a0 r68 r123 s).2 = some (ctlX (E31_7 a1 p69 s108 p124 a0 r68 r123) (X31_7 a1 p69 s108 p124 a0 r68 r123) o) := by
  unfold m31_7b at h
  obtain ⟨s134, s135⟩ := s
  replace h := sel2_some h
  try simp -implicitDefEqProofs only [go_sem, Nat.reduceLT, Nat.reduceAdd, Nat.reduceSub, Nat.reduceMul, Nat.reduceEqDiff, Nat.reduceBEq, Nat.reduceLeDiff, Int.reduceToNat, Int.reduceLT, Int.reduceLE, Int.reduceEq, reduceCtorEq, ↓reduceIte, E31_7, X31_7, k31_7b]
  cases b136 : (ltI s134 p124 : Bool)
  · replace h := br_f b136 h
    cases h
    simp -implicitDefEqProofs only [go_sem, Nat.reduceLT, Nat.reduceAdd, Nat.reduceSub, Nat.reduceMul, Nat.reduceEqDiff, Nat.reduceBEq, Nat.reduceLeDiff, Int.reduceToNat, Int.reduceLT, Int.reduceLE, Int.reduceEq, reduceCtorEq, ↓reduceIte, E31_7, X31_7, k31_7b, b136]
  · replace h := br_t b136 h
    obtain ⟨x137, q138, h⟩ := bnd_some h
    obtain ⟨g139, g140, g141⟩ := idx_row encInt q138
    try simp -implicitDefEqProofs only [go_sem, Nat.reduceLT, Nat.reduceAdd, Nat.reduceSub, Nat.reduceMul, Nat.reduceEqDiff, Nat.reduceBEq, Nat.reduceLeDiff, Int.reduceToNat, Int.reduceLT, Int.reduceLE, Int.reduceEq, reduceCtorEq, ↓reduceIte] at g140
    try simp -implicitDefEqProofs only [go_sem, Nat.reduceLT, Nat.reduceAdd, Nat.reduceSub, Nat.reduceMul, Nat.reduceEqDiff, Nat.reduceBEq, Nat.reduceLeDiff, Int.reduceToNat, Int.reduceLT, Int.reduceLE, Int.reduceEq, reduceCtorEq, ↓reduceIte] at g141
    obtain ⟨r144, q142, h⟩ := bnd_some h
    have w143 := e61 s135 x137 r144 q142
    try simp -implicitDefEqProofs only [go_sem, Nat.reduceLT, Nat.reduceAdd, Nat.reduceSub, Nat.reduceMul, Nat.reduceEqDiff, Nat.reduceBEq, Nat.reduceLeDiff, Int.reduceToNat, Int.reduceLT, Int.reduceLE, Int.reduceEq, reduceCtorEq, ↓reduceIte] at w143
    cases h
    simp -implicitDefEqProofs only [go_sem, Nat.reduceLT, Nat.reduceAdd, Nat.reduceSub, Nat.reduceMul, Nat.reduceEqDiff, Nat.reduceBEq, Nat.reduceLeDiff, Int.reduceToNat, Int.reduceLT, Int.reduceLE, Int.reduceEq, reduceCtorEq, ↓reduceIte, E31_7, X31_7, k31_7b, b136, g139, g140, g141, w143]
theorem e31_7 (rc : l6T → (List Int) → Int → Option (List Int)) (hrc : ∀ (a0 : l6T) (a1 : (List Int)) (a2 : Int) (r : (List Int)), rc a0 a1 a2 = some r → evFL T 31 [.agg [.int .i64 a0.kind_, .int .i64 a0.n_, .ts .imm 3 (a0.kids_.map (encl6T .imm))], .ts .imm 1 (a1.map encInt), .int .i64 a2] [] = some (.sl 0 0 r.length, [some ⟨.arr, 1, r.map encInt⟩])) (a1 : (List Int)) (p69 : Int) (s108 : Int) (p124 : Int) (a0 : l6T) (r68 : (List Int)) (r123 : (List Int)) (s : (Int × List Int)) (o : (List Int)) (h : loopP (m31_7b rc p124 r123) s = some o) : evCL T 0 (.loop k31_7b) (E31_7 a1 p69 s108 p124 a0 r68 r123 s).1 (E31_7 a1 p69 s108 p124 a0 r68 r123 s).2 = some (X31_7 a1 p69 s108 p124 a0 r68 r123 o) :=
  loop_walk (E := E31_7 a1 p69 s108 p124 a0 r68 r123) (X := X31_7 a1 p69 s108 p124 a0 r68 r123) (by intro b; (simp only [X31_7]; nofun)) (b31_7 rc hrc a1 p69 s108 p124 a0 r68 r123) s o h
noncomputable def X31_5 (a1 : (List Int)) (p69 : Int) (a0 : l6T) (r68 : (List Int)) (o : (List Int)) : Ex × Fr × St :=
  (.exit 3, frOf 145 (upd anyF 10 (.sl 0 0 o.length)), [some ⟨.arr, 1, o.map encInt⟩])
noncomputable def E31_5 (a1 : (List Int)) (p69 : Int) (a0 : l6T) (r68 : (List Int)) (s : (Int × List Int)) : Fr × St := (frOf 145 (upd (upd (upd (upd (upd (upd anyF 1 (.ts .imm 1 (a1.map encInt))) 3 (.ptr 0 0 0)) 10 (.sl 1 0 s.2.length)) 85 (.sl 2 0 r68.length)) 86 (.int .i64 p69)) 87 (.int .i64 s.1)), [some ⟨.box, 3, [[.int .i64 a0.kind_, .int .i64 a0.n_, .ts .imm 3 (a0.kids_.map (encl6T .imm))]]⟩, some ⟨.arr, 1, s.2.map encInt⟩, some ⟨.arr, 1, r68.map encInt⟩])
theorem b31_5 (rc : l6T → (List Int) → Int → Option (List Int)) (hrc : ∀ (a0 : l6T) (a1 : (List Int)) (a2 : Int) (r : (List Int)), rc a0 a1 a2 = some r → evFL T 31 [.agg [.int .i64 a0.kind_, .int .i64 a0.n_, .ts .imm 3 (a0.kids_.map (encl6T .imm))], .ts .imm 1 (a1.map encInt), .int .i64 a2] [] = some (.sl 0 0 r.length, [some ⟨.arr, 1, r.map encInt⟩])) (a1 : (List Int)) (p69 : Int) (a0 : l6T) (r68 : (List Int)) (s : (Int × List Int)) (o : Ctl (Int × List Int) (List Int)) (h : m31_5b rc a1 p69 a0 r68 s = some o) : evCL T 0 k31_5b (E31_5 a1 p69 a0 r68 s).1 (E31_5 a1 p69 a0 r68 s).2 = some (ctlX (E31_5 a1 p69 a0 r68) (X31_5 a1 p69 a0 r68) o) := by
  unfold m31_5b at h
  obtain ⟨s108, s109⟩ := s
  replace h := sel2_some h
  try simp -implicitDefEqProofs only [go_sem, Nat.reduceLT, Nat.reduceAdd, Nat.reduceSub, Nat.reduceMul, Nat.reduceEqDiff, Nat.reduceBEq, Nat.reduceLeDiff, Int.reduceToNat, Int.reduceLT, Int.reduceLE, Int.reduceEq, reduceCtorEq, ↓reduceIte, E31_5, X31_5, k31_5b]
  cases b110 : (ltI s108 p69 : Bool)
  · replace h := br_f b110 h
    cases h
    simp -implicitDefEqProofs only [go_sem, Nat.reduceLT, Nat.reduceAdd, Nat.reduceSub, Nat.reduceMul, Nat.reduceEqDiff, Nat.reduceBEq, Nat.reduceLeDiff, Int.reduceToNat, Int.reduceLT, Int.reduceLE, Int.reduceEq, reduceCtorEq, ↓reduceIte, E31_5, X31_5, k31_5b, b110]
  · replace h := br_t b110 h
    obtain ⟨x111, q112, h⟩ := bnd_some h
    obtain ⟨g113, g114, g115⟩ := idx_row encInt q112
    try simp -implicitDefEqProofs only [go_sem, Nat.reduceLT, Nat.reduceAdd, Nat.reduceSub, Nat.reduceMul, Nat.reduceEqDiff, Nat.reduceBEq, Nat.reduceLeDiff, Int.reduceToNat, Int.reduceLT, Int.reduceLE, Int.reduceEq, reduceCtorEq, ↓reduceIte] at g114
    try simp -implicitDefEqProofs only [go_sem, Nat.reduceLT, Nat.reduceAdd, Nat.reduceSub, Nat.reduceMul, Nat.reduceEqDiff, Nat.reduceBEq, Nat.reduceLeDiff, Int.reduceToNat, Int.reduceLT, Int.reduceLE, Int.reduceEq, reduceCtorEq, ↓reduceIte] at g115
    obtain ⟨x116, q117, h⟩ := bnd_some h
    obtain ⟨g118, g119, g120⟩ := idx_row (encl6T .imm) q117
    try simp -implicitDefEqProofs only [go_sem, Nat.reduceLT, Nat.reduceAdd, Nat.reduceSub, Nat.reduceMul, Nat.reduceEqDiff, Nat.reduceBEq, Nat.reduceLeDiff, Int.reduceToNat, Int.reduceLT, Int.reduceLE, Int.reduceEq, reduceCtorEq, ↓reduceIte] at g119
    try simp -implicitDefEqProofs only [go_sem, Nat.reduceLT, Nat.reduceAdd, Nat.reduceSub, Nat.reduceMul, Nat.reduceEqDiff, Nat.reduceBEq, Nat.reduceLeDiff, Int.reduceToNat, Int.reduceLT, Int.reduceLE, Int.reduceEq, reduceCtorEq, ↓reduceIte] at g120
    obtain ⟨r123, q121, h⟩ := bnd_some h
    have w122 := hrc x116 a1 x111 r123 q121
    try simp -implicitDefEqProofs only [go_sem, Nat.reduceLT, Nat.reduceAdd, Nat.reduceSub, Nat.reduceMul, Nat.reduceEqDiff, Nat.reduceBEq, Nat.reduceLeDiff, Int.reduceToNat, Int.reduceLT, Int.reduceLE, Int.reduceEq, reduceCtorEq, ↓reduceIte] at w122
    obtain ⟨v147, q145, h⟩ := bnd_some h
    have w146 := e31_7 rc hrc a1 p69 s108 (↑r123.length : Int) a0 r68 r123 (0, s109) v147 q145
    simp only [E31_7, X31_7] at w146
    try simp -implicitDefEqProofs only [go_sem, Nat.reduceLT, Nat.reduceAdd, Nat.reduceSub, Nat.reduceMul, Nat.reduceEqDiff, Nat.reduceBEq, Nat.reduceLeDiff, Int.reduceToNat, Int.reduceLT, Int.reduceLE, Int.reduceEq, reduceCtorEq, ↓reduceIte] at w146
    cases h
    simp -implicitDefEqProofs only [go_sem, Nat.reduceLT, Nat.reduceAdd, Nat.reduceSub, Nat.reduceMul, Nat.reduceEqDiff, Nat.reduceBEq, Nat.reduceLeDiff, Int.reduceToNat, Int.reduceLT, Int.reduceLE, Int.reduceEq, reduceCtorEq, ↓reduceIte, E31_5, X31_5, k31_5b, b110, g113, g114, g115, g118, g119, g120, w122, w146]
theorem e31_5 (rc : l6T → (List Int) → Int → Option (List Int)) (hrc : ∀ (a0 : l6T) (a1 : (List Int)) (a2 : Int) (r : (List Int)), rc a0 a1 a2 = some r → evFL T 31 [.agg [.int .i64 a0.kind_, .int .i64 a0.n_, .ts .imm 3 (a0.kids_.map (encl6T .imm))], .ts .imm 1 (a1.map encInt), .int .i64 a2] [] = some (.sl 0 0 r.length, [some ⟨.arr, 1, r.map encInt⟩])) (a1 : (List Int)) (p69 : Int) (a0 : l6T) (r68 : (List Int)) (s : (Int × List Int)) (o : (List Int)) (h : loopP (m31_5b rc a1 p69 a0 r68) s = some o) : evCL T 0 (.loop k31_5b) (E31_5 a1 p69 a0 r68 s).1 (E31_5 a1 p69 a0 r68 s).2 = some (X31_5 a1 p69 a0 r68 o) :=
  loop_walk (E := E31_5 a1 p69 a0 r68) (X := X31_5 a1 p69 a0 r68) (by intro b; (simp only [X31_5]; nofun)) (b31_5 rc hrc a1 p69 a0 r68) s o h
noncomputable def X31_14 (a1 : (List Int)) (p240 : Int) (p241 : Int) (s280 : Int) (p296 : Int) (a0 : l6T) (s238 : List Int) (r295 : (List Int)) (o : (List Int)) : Ex × Fr × St :=
  (.exit 11, frOf 145 (upd (upd (upd (upd (upd (upd (upd anyF 1 (.ts .imm 1 (a1.map encInt))) 3 (.ptr 0 0 0)) 15 (.sl 1 0 o.length)) 16 (.int .i64 p240)) 117 (.sl 2 0 s238.length)) 118 (.int .i64 p241)) 119 (.int .i64 s280)), [some ⟨.box, 3, [[.int .i64 a0.kind_, .int .i64 a0.n_, .ts .imm 3 (a0.kids_.map (encl6T .imm))]]⟩, some ⟨.arr, 1, o.map encInt⟩, some ⟨.arr, 1, s238.map encInt⟩])
noncomputable def E31_14 (a1 : (List Int)) (p240 : Int) (p241 : Int) (s280 : Int) (p296 : Int) (a0 : l6T) (s238 : List Int) (r295 : (List Int)) (s : (Int × List Int)) : Fr × St := (frOf 145 (upd (upd (upd (upd (upd (upd (upd (upd (upd (upd anyF 1 (.ts .imm 1 (a1.map encInt))) 3 (.ptr 0 0 0)) 15 (.sl 1 0 s.2.length)) 16 (.int .i64 p240)) 117 (.sl 2 0 s238.length)) 118 (.int .i64 p241)) 119 (.int .i64 s280)) 129 (.sl 3 0 r295.length)) 130 (.int .i64 p296)) 131 (.int .i64 s.1)), [some ⟨.box, 3, [[.int .i64 a0.kind_, .int .i64 a0.n_, .ts .imm 3 (a0.kids_.map (encl6T .imm))]]⟩, some ⟨.arr, 1, s.2.map encInt⟩, some ⟨.arr, 1, s238.map encInt⟩, some ⟨.arr, 1, r295.map encInt⟩])
theorem b31_14 (rc : l6T → (List Int) → Int → Option (List Int)) (hrc : ∀ (a0 : l6T) (a1 : (List Int)) (a2 : Int) (r : (List Int)), rc a0 a1 a2 = some r → evFL T 31 [.agg [.int .i64 a0.kind_, .int .i64 a0.n_, .ts .imm 3 (a0.kids_.map (encl6T .imm))], .ts .imm 1 (a1.map encInt), .int .i64 a2] [] = some (.sl 0 0 r.length, [some ⟨.arr, 1, r.map encInt⟩])) (a1 : (List Int)) (p240 : Int) (p241 : Int) (s280 : Int) (p296 : Int) (a0 : l6T) (s238 : List Int) (r295 : (List Int)) (s : (Int × List Int)) (o : Ctl (Int × List Int) (List Int)) (h : m31_14b rc p296 r295 s = some o) : evCL T 0 k31_14b (E31_14 a1 p240 p241 s280 p296 a0 s238 r295 s).1 (E31_14 a1 p240 p241 s280 p296 a0 s238 r295 s).2 = some (ctlX (E31_14 a1 p240 p241 s280 p296 a0 s238 r295) (X31_14 a1 p240 p241 s280 p296 a0 s238 r295) o) := by
  unfold m31_14b at h
  obtain ⟨s306, s307⟩ := s
  replace h := sel2_some h
  try simp -implicitDefEqProofs only [go_sem, Nat.reduceLT, Nat.reduceAdd, Nat.reduceSub, Nat.reduceMul, Nat.reduceEqDiff, Nat.reduceBEq, Nat.reduceLeDiff, Int.reduceToNat, Int.reduceLT, Int.reduceLE, Int.reduceEq, reduceCtorEq, ↓reduceIte, E31_14, X31_14, k31_14b]
  cases b308 : (ltI s306 p296 : Bool)
  · replace h := br_f b308 h
    cases h
    simp -implicitDefEqProofs only [go_sem, Nat.reduceLT, Nat.reduceAdd, Nat.reduceSub, Nat.reduceMul, Nat.reduceEqDiff, Nat.reduceBEq, Nat.reduceLeDiff, Int.reduceToNat, Int.reduceLT, Int.reduceLE, Int.reduceEq, reduceCtorEq, ↓reduceIte, E31_14, X31_14, k31_14b, b308]
  · replace h := br_t b308 h
    obtain ⟨x309, q310, h⟩ := bnd_some h
    obtain ⟨g311, g312, g313⟩ := idx_row encInt q310
    try simp -implicitDefEqProofs only [go_sem, Nat.reduceLT, Nat.reduceAdd, Nat.reduceSub, Nat.reduceMul, Nat.reduceEqDiff, Nat.reduceBEq, Nat.reduceLeDiff, Int.reduceToNat, Int.reduceLT, Int.reduceLE, Int.reduceEq, reduceCtorEq, ↓reduceIte] at g312
    try simp -implicitDefEqProofs only [go_sem, Nat.reduceLT, Nat.reduceAdd, Nat.reduceSub, Nat.reduceMul, Nat.reduceEqDiff, Nat.reduceBEq, Nat.reduceLeDiff, Int.reduceToNat, Int.reduceLT, Int.reduceLE, Int.reduceEq, reduceCtorEq, ↓reduceIte] at g313
    obtain ⟨r316, q314, h⟩ := bnd_some h
    have w315 := e61 s307 x309 r316 q314
    try simp -implicitDefEqProofs only [go_sem, Nat.reduceLT, Nat.reduceAdd, Nat.reduceSub, Nat.reduceMul, Nat.reduceEqDiff, Nat.reduceBEq, Nat.reduceLeDiff, Int.reduceToNat, Int.reduceLT, Int.reduceLE, Int.reduceEq, reduceCtorEq, ↓reduceIte] at w315
    cases h
    simp -implicitDefEqProofs only [go_sem, Nat.reduceLT, Nat.reduceAdd, Nat.reduceSub, Nat.reduceMul, Nat.reduceEqDiff, Nat.reduceBEq, Nat.reduceLeDiff, Int.reduceToNat, Int.reduceLT, Int.reduceLE, Int.reduceEq, reduceCtorEq, ↓reduceIte, E31_14, X31_14, k31_14b, b308, g311, g312, g313, w315]
theorem e31_14 (rc : l6T → (List Int) → Int → Option (List Int)) (hrc : ∀ (a0 : l6T) (a1 : (List Int)) (a2 : Int) (r : (List Int)), rc a0 a1 a2 = some r → evFL T 31 [.agg [.int .i64 a0.kind_, .int .i64 a0.n_, .ts .imm 3 (a0.kids_.map (encl6T .imm))], .ts .imm 1 (a1.map encInt), .int .i64 a2] [] = some (.sl 0 0 r.length, [some ⟨.arr, 1, r.map encInt⟩])) (a1 : (List Int)) (p240 : Int) (p241 : Int) (s280 : Int) (p296 : Int) (a0 : l6T) (s238 : List Int) (r295 : (List Int)) (s : (Int × List Int)) (o : (List Int)) (h : loopP (m31_14b rc p296 r295) s = some o) : evCL T 0 (.loop k31_14b) (E31_14 a1 p240 p241 s280 p296 a0 s238 r295 s).1 (E31_14 a1 p240 p241 s280 p296 a0 s238 r295 s).2 = some (X31_14 a1 p240 p241 s280 p296 a0 s238 r295 o) :=
  loop_walk (E := E31_14 a1 p240 p241 s280 p296 a0 s238 r295) (X := X31_14 a1 p240 p241 s280 p296 a0 s238 r295) (by intro b; (simp only [X31_14]; nofun)) (b31_14 rc hrc a1 p240 p241 s280 p296 a0 s238 r295) s o h
noncomputable def X31_12 (a1 : (List Int)) (p240 : Int) (p241 : Int) (a0 : l6T) (s238 : List Int) (o : (List Int)) : Ex × Fr × St :=
  (.exit 9, frOf 145 (upd (upd (upd (upd anyF 1 (.ts .imm 1 (a1.map encInt))) 3 (.ptr 0 0 0)) 15 (.sl 1 0 o.length)) 16 (.int .i64 p240)), [some ⟨.box, 3, [[.int .i64 a0.kind_, .int .i64 a0.n_, .ts .imm 3 (a0.kids_.map (encl6T .imm))]]⟩, some ⟨.arr, 1, o.map encInt⟩])
noncomputable def E31_12 (a1 : (List Int)) (p240 : Int) (p241 : Int) (a0 : l6T) (s238 : List Int) (s : (Int × List Int)) : Fr × St := (frOf 145 (upd (upd (upd (upd (upd (upd (upd anyF 1 (.ts .imm 1 (a1.map encInt))) 3 (.ptr 0 0 0)) 15 (.sl 1 0 s.2.length)) 16 (.int .i64 p240)) 117 (.sl 2 0 s238.length)) 118 (.int .i64 p241)) 119 (.int .i64 s.1)), [some ⟨.box, 3, [[.int .i64 a0.kind_, .int .i64 a0.n_, .ts .imm 3 (a0.kids_.map (encl6T .imm))]]⟩, some ⟨.arr, 1, s.2.map encInt⟩, some ⟨.arr, 1, s238.map encInt⟩])
theorem b31_12 (rc : l6T → (List Int) → Int → Option (List Int)) (hrc : ∀ (a0 : l6T) (a1 : (List Int)) (a2 : Int) (r : (List Int)), rc a0 a1 a2 = some r → evFL T 31 [.agg [.int .i64 a0.kind_, .int .i64 a0.n_, .ts .imm 3 (a0.kids_.map (encl6T .imm))], .ts .imm 1 (a1.map encInt), .int .i64 a2] [] = some (.sl 0 0 r.length, [some ⟨.arr, 1, r.map encInt⟩])) (a1 : (List Int)) (p240 : Int) (p241 : Int) (a0 : l6T) (s238 : List Int) (s : (Int × List Int)) (o : Ctl (Int × List Int) (List Int)) (h : m31_12b rc a1 p241 a0 s238 s = some o) : evCL T 0 k31_12b (E31_12 a1 p240 p241 a0 s238 s).1 (E31_12 a1 p240 p241 a0 s238 s).2 = some (ctlX (E31_12 a1 p240 p241 a0 s238) (X31_12 a1 p240 p241 a0 s238) o) := by
  unfold m31_12b at h
  obtain ⟨s280, s281⟩ := s
  replace h := sel2_some h
  try simp -implicitDefEqProofs only [go_sem, Nat.reduceLT, Nat.reduceAdd, Nat.reduceSub, Nat.reduceMul, Nat.reduceEqDiff, Nat.reduceBEq, Nat.reduceLeDiff, Int.reduceToNat, Int.reduceLT, Int.reduceLE, Int.reduceEq, reduceCtorEq, ↓reduceIte, E31_12, X31_12, k31_12b]
  cases b282 : (ltI s280 p241 : Bool)
  · replace h := br_f b282 h
    cases h
    simp -implicitDefEqProofs only [go_sem, Nat.reduceLT, Nat.reduceAdd, Nat.reduceSub, Nat.reduceMul, Nat.reduceEqDiff, Nat.reduceBEq, Nat.reduceLeDiff, Int.reduceToNat, Int.reduceLT, Int.reduceLE, Int.reduceEq, reduceCtorEq, ↓reduceIte, E31_12, X31_12, k31_12b, b282]
  · replace h := br_t b282 h
    obtain ⟨x283, q284, h⟩ := bnd_some h
    obtain ⟨g285, g286, g287⟩ := idx_row encInt q284
    try simp -implicitDefEqProofs only [go_sem, Nat.reduceLT, Nat.reduceAdd, Nat.reduceSub, Nat.reduceMul, Nat.reduceEqDiff, Nat.reduceBEq, Nat.reduceLeDiff, Int.reduceToNat, Int.reduceLT, Int.reduceLE, Int.reduceEq, reduceCtorEq, ↓reduceIte] at g286
    try simp -implicitDefEqProofs only [go_sem, Nat.reduceLT, Nat.reduceAdd, Nat.reduceSub, Nat.reduceMul, Nat.reduceEqDiff, Nat.reduceBEq, Nat.reduceLeDiff, Int.reduceToNat, Int.reduceLT, Int.reduceLE, Int.reduceEq, reduceCtorEq, ↓reduceIte] at g287
    obtain ⟨x288, q289, h⟩ := bnd_some h
    obtain ⟨g290, g291, g292⟩ := idx_row (encl6T .imm) q289
    try simp -implicitDefEqProofs only [go_sem, Nat.reduceLT, Nat.reduceAdd, Nat.reduceSub, Nat.reduceMul, Nat.reduceEqDiff, Nat.reduceBEq, Nat.reduceLeDiff, Int.reduceToNat, Int.reduceLT, Int.reduceLE, Int.reduceEq, reduceCtorEq, ↓reduceIte] at g291
    try simp -implicitDefEqProofs only [go_sem, Nat.reduceLT, Nat.reduceAdd, Nat.reduceSub, Nat.reduceMul, Nat.reduceEqDiff, Nat.reduceBEq, Nat.reduceLeDiff, Int.reduceToNat, Int.reduceLT, Int.reduceLE, Int.reduceEq, reduceCtorEq, ↓reduceIte] at g292
    obtain ⟨r295, q293, h⟩ := bnd_some h
    have w294 := hrc x288 a1 x283 r295 q293
    try simp -implicitDefEqProofs only [go_sem, Nat.reduceLT, Nat.reduceAdd, Nat.reduceSub, Nat.reduceMul, Nat.reduceEqDiff, Nat.reduceBEq, Nat.reduceLeDiff, Int.reduceToNat, Int.reduceLT, Int.reduceLE, Int.reduceEq, reduceCtorEq, ↓reduceIte] at w294
    obtain ⟨v319, q317, h⟩ := bnd_some h
    have w318 := e31_14 rc hrc a1 p240 p241 s280 (↑r295.length : Int) a0 s238 r295 (0, s281) v319 q317
    simp only [E31_14, X31_14] at w318
    try simp -implicitDefEqProofs only [go_sem, Nat.reduceLT, Nat.reduceAdd, Nat.reduceSub, Nat.reduceMul, Nat.reduceEqDiff, Nat.reduceBEq, Nat.reduceLeDiff, Int.reduceToNat, Int.reduceLT, Int.reduceLE, Int.reduceEq, reduceCtorEq, ↓reduceIte] at w318
    cases h
    simp -implicitDefEqProofs only [go_sem, Nat.reduceLT, Nat.reduceAdd, Nat.reduceSub, Nat.reduceMul, Nat.reduceEqDiff, Nat.reduceBEq, Nat.reduceLeDiff, Int.reduceToNat, Int.reduceLT, Int.reduceLE, Int.reduceEq, reduceCtorEq, ↓reduceIte, E31_12, X31_12, k31_12b, b282, g285, g286, g287, g290, g291, g292, w294, w318]
theorem e31_12 (rc : l6T → (List Int) → Int → Option (List Int)) (hrc : ∀ (a0 : l6T) (a1 : (List Int)) (a2 : Int) (r : (List Int)), rc a0 a1 a2 = some r → evFL T 31 [.agg [.int .i64 a0.kind_, .int .i64 a0.n_, .ts .imm 3 (a0.kids_.map (encl6T .imm))], .ts .imm 1 (a1.map encInt), .int .i64 a2] [] = some (.sl 0 0 r.length, [some ⟨.arr, 1, r.map encInt⟩])) (a1 : (List Int)) (p240 : Int) (p241 : Int) (a0 : l6T) (s238 : List Int) (s : (Int × List Int)) (o : (List Int)) (h : loopP (m31_12b rc a1 p241 a0 s238) s = some o) : evCL T 0 (.loop k31_12b) (E31_12 a1 p240 p241 a0 s238 s).1 (E31_12 a1 p240 p241 a0 s238 s).2 = some (X31_12 a1 p240 p241 a0 s238 o) :=
  loop_walk (E := E31_12 a1 p240 p241 a0 s238) (X := X31_12 a1 p240 p241 a0 s238) (by intro b; (simp only [X31_12]; nofun)) (b31_12 rc hrc a1 p240 p241 a0 s238) s o h
noncomputable def X31_8 (a1 : (List Int)) (a0 : l6T) (o : (List Int)) : Ex × Fr × St :=
  (.ret, frOf 145 (upd anyF 6 (.sl 0 0 o.length)), [some ⟨.arr, 1, o.map encInt⟩])
noncomputable def E31_8 (a1 : (List Int)) (a0 : l6T) (s : List Int) : Fr × St := (frOf 145 (upd (upd (upd anyF 1 (.ts .imm 1 (a1.map encInt))) 3 (.ptr 0 0 0)) 15 (.sl 1 0 s.length)), [some ⟨.box, 3, [[.int .i64 a0.kind_, .int .i64 a0.n_, .ts .imm 3 (a0.kids_.map (encl6T .imm))]]⟩, some ⟨.arr, 1, s.map encInt⟩])
theorem b31_8 (rc : l6T → (List Int) → Int → Option (List Int)) (hrc : ∀ (a0 : l6T) (a1 : (List Int)) (a2 : Int) (r : (List Int)), rc a0 a1 a2 = some r → evFL T 31 [.agg [.int .i64 a0.kind_, .int .i64 a0.n_, .ts .imm 3 (a0.kids_.map (encl6T .imm))], .ts .imm 1 (a1.map encInt), .int .i64 a2] [] = some (.sl 0 0 r.length, [some ⟨.arr, 1, r.map encInt⟩])) (a1 : (List Int)) (a0 : l6T) (s : List Int) (o : Ctl (List Int) (List Int)) (h : m31_8b rc a1 a0 s = some o) : evCL T 0 k31_8b (E31_8 a1 a0 s).1 (E31_8 a1 a0 s).2 = some (ctlX (E31_8 a1 a0) (X31_8 a1 a0) o) := by
  unfold m31_8b at h
  revert h
  generalize s = s238
  intro h
  obtain ⟨g239, h⟩ := ck_some h
  try simp -implicitDefEqProofs only [go_sem, Nat.reduceLT, Nat.reduceAdd, Nat.reduceSub, Nat.reduceMul, Nat.reduceEqDiff, Nat.reduceBEq, Nat.reduceLeDiff, Int.reduceToNat, Int.reduceLT, Int.reduceLE, Int.reduceEq, reduceCtorEq, ↓reduceIte] at g239
  obtain ⟨v322, q320, h⟩ := bnd_some h
  have w321 := e31_12 rc hrc a1 (↑s238.length : Int) (↑s238.length : Int) a0 s238 (0, s238) v322 q320
  simp only [E31_12, X31_12] at w321
  try simp -implicitDefEqProofs only [go_sem, Nat.reduceLT, Nat.reduceAdd, Nat.reduceSub, Nat.reduceMul, Nat.reduceEqDiff, Nat.reduceBEq, Nat.reduceLeDiff, Int.reduceToNat, Int.reduceLT, Int.reduceLE, Int.reduceEq, reduceCtorEq, ↓reduceIte] at w321
  try simp -implicitDefEqProofs only [go_sem, Nat.reduceLT, Nat.reduceAdd, Nat.reduceSub, Nat.reduceMul, Nat.reduceEqDiff, Nat.reduceBEq, Nat.reduceLeDiff, Int.reduceToNat, Int.reduceLT, Int.reduceLE, Int.reduceEq, reduceCtorEq, ↓reduceIte, E31_8, X31_8, k31_8b, g239, w321]
  cases b323 : (eqI (↑v322.length : Int) (↑s238.length : Int) : Bool)
  · replace h := br_f b323 h
    cases h
    simp -implicitDefEqProofs only [go_sem, Nat.reduceLT, Nat.reduceAdd, Nat.reduceSub, Nat.reduceMul, Nat.reduceEqDiff, Nat.reduceBEq, Nat.reduceLeDiff, Int.reduceToNat, Int.reduceLT, Int.reduceLE, Int.reduceEq, reduceCtorEq, ↓reduceIte, E31_8, X31_8, k31_8b, g239, w321, b323]
  · replace h := br_t b323 h
    cases h
    simp -implicitDefEqProofs only [go_sem, Nat.reduceLT, Nat.reduceAdd, Nat.reduceSub, Nat.reduceMul, Nat.reduceEqDiff, Nat.reduceBEq, Nat.reduceLeDiff, Int.reduceToNat, Int.reduceLT, Int.reduceLE, Int.reduceEq, reduceCtorEq, ↓reduceIte, E31_8, X31_8, k31_8b, g239, w321, b323]
theorem e31_8 (rc : l6T → (List Int) → Int → Option (List Int)) (hrc : ∀ (a0 : l6T) (a1 : (List Int)) (a2 : Int) (r : (List Int)), rc a0 a1 a2 = some r → evFL T 31 [.agg [.int .i64 a0.kind_, .int .i64 a0.n_, .ts .imm 3 (a0.kids_.map (encl6T .imm))], .ts .imm 1 (a1.map encInt), .int .i64 a2] [] = some (.sl 0 0 r.length, [some ⟨.arr, 1, r.map encInt⟩])) (a1 : (List Int)) (a0 : l6T) (s : List Int) (o : (List Int)) (h : loopP (m31_8b rc a1 a0) s = some o) : evCL T 0 (.loop k31_8b) (E31_8 a1 a0 s).1 (E31_8 a1 a0 s).2 = some (X31_8 a1 a0 o) :=
  loop_walk (E := E31_8 a1 a0) (X := X31_8 a1 a0) (by intro b; (simp only [X31_8]; nofun)) (b31_8 rc hrc a1 a0) s o h
noncomputable def X31_2 (a1 : (List Int)) (a2 : Int) (a0 : l6T) (v6 : Bool) (o : (Unit ⊕ List Int)) : Ex × Fr × St :=
  match o with
  | .inl o => (.normal, frOf 145 (anyF), [])
  | .inr o => (.ret, frOf 145 (upd anyF 6 (.sl 0 0 o.length)), [some ⟨.arr, 1, o.map encInt⟩])
theorem e31_2 (rc : l6T → (List Int) → Int → Option (List Int)) (hrc : ∀ (a0 : l6T) (a1 : (List Int)) (a2 : Int) (r : (List Int)), rc a0 a1 a2 = some r → evFL T 31 [.agg [.int .i64 a0.kind_, .int .i64 a0.n_, .ts .imm 3 (a0.kids_.map (encl6T .imm))], .ts .imm 1 (a1.map encInt), .int .i64 a2] [] = some (.sl 0 0 r.length, [some ⟨.arr, 1, r.map encInt⟩])) (a1 : (List Int)) (a2 : Int) (a0 : l6T) (v6 : Bool) (o : (Unit ⊕ List Int)) (h : m31_2 rc a1 a2 a0 v6 = some o) : evCL T 0 k31_2 (frOf 145 (upd (upd (upd (upd (upd anyF 1 (.ts .imm 1 (a1.map encInt))) 2 (.int .i64 a2)) 3 (.ptr 0 0 0)) 22 (.int .i64 a0.kind_)) 27 (.bool v6))) [some ⟨.box, 3, [[.int .i64 a0.kind_, .int .i64 a0.n_, .ts .imm 3 (a0.kids_.map (encl6T .imm))]]⟩] = some (X31_2 a1 a2 a0 v6 o) := by
  unfold m31_2 at h
  try simp -implicitDefEqProofs only [go_sem, Nat.reduceLT, Nat.reduceAdd, Nat.reduceSub, Nat.reduceMul, Nat.reduceEqDiff, Nat.reduceBEq, Nat.reduceLeDiff, Int.reduceToNat, Int.reduceLT, Int.reduceLE, Int.reduceEq, reduceCtorEq, ↓reduceIte, X31_2, k31_2]
  cases b7 : (v6 : Bool)
  · replace h := br_f b7 h
    try simp -implicitDefEqProofs only [go_sem, Nat.reduceLT, Nat.reduceAdd, Nat.reduceSub, Nat.reduceMul, Nat.reduceEqDiff, Nat.reduceBEq, Nat.reduceLeDiff, Int.reduceToNat, Int.reduceLT, Int.reduceLE, Int.reduceEq, reduceCtorEq, ↓reduceIte, X31_2, k31_2, b7]
    cases b19 : (eqI a0.kind_ 6 : Bool)
    · replace h := br_f b19 h
      try simp -implicitDefEqProofs only [go_sem, Nat.reduceLT, Nat.reduceAdd, Nat.reduceSub, Nat.reduceMul, Nat.reduceEqDiff, Nat.reduceBEq, Nat.reduceLeDiff, Int.reduceToNat, Int.reduceLT, Int.reduceLE, Int.reduceEq, reduceCtorEq, ↓reduceIte, X31_2, k31_2, b7, b19]
      cases b60 : (eqI a0.kind_ 5 : Bool)
      · replace h := br_f b60 h
        try simp -implicitDefEqProofs only [go_sem, Nat.reduceLT, Nat.reduceAdd, Nat.reduceSub, Nat.reduceMul, Nat.reduceEqDiff, Nat.reduceBEq, Nat.reduceLeDiff, Int.reduceToNat, Int.reduceLT, Int.reduceLE, Int.reduceEq, reduceCtorEq, ↓reduceIte, X31_2, k31_2, b7, b19, b60]
        cases b151 : (eqI a0.kind_ 7 : Bool)
        · replace h := br_f b151 h
          cases h
          simp -implicitDefEqProofs only [go_sem, Nat.reduceLT, Nat.reduceAdd, Nat.reduceSub, Nat.reduceMul, Nat.reduceEqDiff, Nat.reduceBEq, Nat.reduceLeDiff, Int.reduceToNat, Int.reduceLT, Int.reduceLE, Int.reduceEq, reduceCtorEq, ↓reduceIte, X31_2, k31_2, b7, b19, b60, b151]
        · replace h := br_t b151 h
          obtain ⟨v326, q324, h⟩ := bnd_some h
          have w325 := e31_8 rc hrc a1 a0 [a2] v326 q324
          simp only [E31_8, X31_8] at w325
          try simp -implicitDefEqProofs only [go_sem, Nat.reduceLT, Nat.reduceAdd, Nat.reduceSub, Nat.reduceMul, Nat.reduceEqDiff, Nat.reduceBEq, Nat.reduceLeDiff, Int.reduceToNat, Int.reduceLT, Int.reduceLE, Int.reduceEq, reduceCtorEq, ↓reduceIte] at w325
          cases h
          simp -implicitDefEqProofs only [go_sem, Nat.reduceLT, Nat.reduceAdd, Nat.reduceSub, Nat.reduceMul, Nat.reduceEqDiff, Nat.reduceBEq, Nat.reduceLeDiff, Int.reduceToNat, Int.reduceLT, Int.reduceLE, Int.reduceEq, reduceCtorEq, ↓reduceIte, X31_2, k31_2, b7, b19, b60, b151, w325]
      · replace h := br_t b60 h
        obtain ⟨x61, q62, h⟩ := bnd_some h
        obtain ⟨g63, g64, g65⟩ := idx_row (encl6T .imm) q62
        try simp -implicitDefEqProofs only [go_sem, Nat.reduceLT, Nat.reduceAdd, Nat.reduceSub, Nat.reduceMul, Nat.reduceEqDiff, Nat.reduceBEq, Nat.reduceLeDiff, Int.reduceToNat, Int.reduceLT, Int.reduceLE, Int.reduceEq, reduceCtorEq, ↓reduceIte] at g64
        try simp -implicitDefEqProofs only [go_sem, Nat.reduceLT, Nat.reduceAdd, Nat.reduceSub, Nat.reduceMul, Nat.reduceEqDiff, Nat.reduceBEq, Nat.reduceLeDiff, Int.reduceToNat, Int.reduceLT, Int.reduceLE, Int.reduceEq, reduceCtorEq, ↓reduceIte] at g65
        obtain ⟨r68, q66, h⟩ := bnd_some h
        have w67 := hrc x61 a1 a2 r68 q66
        try simp -implicitDefEqProofs only [go_sem, Nat.reduceLT, Nat.reduceAdd, Nat.reduceSub, Nat.reduceMul, Nat.reduceEqDiff, Nat.reduceBEq, Nat.reduceLeDiff, Int.reduceToNat, Int.reduceLT, Int.reduceLE, Int.reduceEq, reduceCtorEq, ↓reduceIte] at w67
        obtain ⟨v150, q148, h⟩ := bnd_some h
        have w149 := e31_5 rc hrc a1 (↑r68.length : Int) a0 r68 (0, []) v150 q148
        simp only [E31_5, X31_5] at w149
        try simp -implicitDefEqProofs only [go_sem, Nat.reduceLT, Nat.reduceAdd, Nat.reduceSub, Nat.reduceMul, Nat.reduceEqDiff, Nat.reduceBEq, Nat.reduceLeDiff, Int.reduceToNat, Int.reduceLT, Int.reduceLE, Int.reduceEq, reduceCtorEq, ↓reduceIte] at w149
        cases h
        simp -implicitDefEqProofs only [go_sem, Nat.reduceLT, Nat.reduceAdd, Nat.reduceSub, Nat.reduceMul, Nat.reduceEqDiff, Nat.reduceBEq, Nat.reduceLeDiff, Int.reduceToNat, Int.reduceLT, Int.reduceLE, Int.reduceEq, reduceCtorEq, ↓reduceIte, X31_2, k31_2, b7, b19, b60, g63, g64, g65, w67, w149]
    · replace h := br_t b19 h
      obtain ⟨x20, q21, h⟩ := bnd_some h
      obtain ⟨g22, g23, g24⟩ := idx_row (encl6T .imm) q21
      try simp -implicitDefEqProofs only [go_sem, Nat.reduceLT, Nat.reduceAdd, Nat.reduceSub, Nat.reduceMul, Nat.reduceEqDiff, Nat.reduceBEq, Nat.reduceLeDiff, Int.reduceToNat, Int.reduceLT, Int.reduceLE, Int.reduceEq, reduceCtorEq, ↓reduceIte] at g23
      try simp -implicitDefEqProofs only [go_sem, Nat.reduceLT, Nat.reduceAdd, Nat.reduceSub, Nat.reduceMul, Nat.reduceEqDiff, Nat.reduceBEq, Nat.reduceLeDiff, Int.reduceToNat, Int.reduceLT, Int.reduceLE, Int.reduceEq, reduceCtorEq, ↓reduceIte] at g24
      obtain ⟨r27, q25, h⟩ := bnd_some h
      have w26 := hrc x20 a1 a2 r27 q25
      try simp -implicitDefEqProofs only [go_sem, Nat.reduceLT, Nat.reduceAdd, Nat.reduceSub, Nat.reduceMul, Nat.reduceEqDiff, Nat.reduceBEq, Nat.reduceLeDiff, Int.reduceToNat, Int.reduceLT, Int.reduceLE, Int.reduceEq, reduceCtorEq, ↓reduceIte] at w26
      obtain ⟨x28, q29, h⟩ := bnd_some h
      obtain ⟨g30, g31, g32⟩ := idx_row (encl6T .imm) q29
      try simp -implicitDefEqProofs only [go_sem, Nat.reduceLT, Nat.reduceAdd, Nat.reduceSub, Nat.reduceMul, Nat.reduceEqDiff, Nat.reduceBEq, Nat.reduceLeDiff, Int.reduceToNat, Int.reduceLT, Int.reduceLE, Int.reduceEq, reduceCtorEq, ↓reduceIte] at g31
      try simp -implicitDefEqProofs only [go_sem, Nat.reduceLT, Nat.reduceAdd, Nat.reduceSub, Nat.reduceMul, Nat.reduceEqDiff, Nat.reduceBEq, Nat.reduceLeDiff, Int.reduceToNat, Int.reduceLT, Int.reduceLE, Int.reduceEq, reduceCtorEq, ↓reduceIte] at g32
      obtain ⟨r35, q33, h⟩ := bnd_some h
      have w34 := hrc x28 a1 a2 r35 q33
      try simp -implicitDefEqProofs only [go_sem, Nat.reduceLT, Nat.reduceAdd, Nat.reduceSub, Nat.reduceMul, Nat.reduceEqDiff, Nat.reduceBEq, Nat.reduceLeDiff, Int.reduceToNat, Int.reduceLT, Int.reduceLE, Int.reduceEq, reduceCtorEq, ↓reduceIte] at w34
      obtain ⟨v59, q57, h⟩ := bnd_some h
      have w58 := e31_4 rc hrc (↑r35.length : Int) r35 (0, r27) v59 q57
      simp only [E31_4, X31_4] at w58
      try simp -implicitDefEqProofs only [go_sem, Nat.reduceLT, Nat.reduceAdd, Nat.reduceSub, Nat.reduceMul, Nat.reduceEqDiff, Nat.reduceBEq, Nat.reduceLeDiff, Int.reduceToNat, Int.reduceLT, Int.reduceLE, Int.reduceEq, reduceCtorEq, ↓reduceIte] at w58
      cases h
      simp -implicitDefEqProofs only [go_sem, Nat.reduceLT, Nat.reduceAdd, Nat.reduceSub, Nat.reduceMul, Nat.reduceEqDiff, Nat.reduceBEq, Nat.reduceLeDiff, Int.reduceToNat, Int.reduceLT, Int.reduceLE, Int.reduceEq, reduceCtorEq, ↓reduceIte, X31_2, k31_2, b7, b19, g22, g23, g24, w26, g30, g31, g32, w34, w58]
  · replace h := br_t b7 h
    obtain ⟨v17, q15, h⟩ := bnd_some h
    have w16 := e31_3 rc hrc a1 a2 a0 v17 q15
    simp only [X31_3] at w16
    try simp -implicitDefEqProofs only [go_sem, Nat.reduceLT, Nat.reduceAdd, Nat.reduceSub, Nat.reduceMul, Nat.reduceEqDiff, Nat.reduceBEq, Nat.reduceLeDiff, Int.reduceToNat, Int.reduceLT, Int.reduceLE, Int.reduceEq, reduceCtorEq, ↓reduceIte] at w16
    try simp -implicitDefEqProofs only [go_sem, Nat.reduceLT, Nat.reduceAdd, Nat.reduceSub, Nat.reduceMul, Nat.reduceEqDiff, Nat.reduceBEq, Nat.reduceLeDiff, Int.reduceToNat, Int.reduceLT, Int.reduceLE, Int.reduceEq, reduceCtorEq, ↓reduceIte, X31_2, k31_2, b7, w16]
    cases b18 : (v17 : Bool)
    · replace h := br_f b18 h
      cases h
      simp -implicitDefEqProofs only [go_sem, Nat.reduceLT, Nat.reduceAdd, Nat.reduceSub, Nat.reduceMul, Nat.reduceEqDiff, Nat.reduceBEq, Nat.reduceLeDiff, Int.reduceToNat, Int.reduceLT, Int.reduceLE, Int.reduceEq, reduceCtorEq, ↓reduceIte, X31_2, k31_2, b7, w16, b18]
    · replace h := br_t b18 h
      cases h
      simp -implicitDefEqProofs only [go_sem, Nat.reduceLT, Nat.reduceAdd, Nat.reduceSub, Nat.reduceMul, Nat.reduceEqDiff, Nat.reduceBEq, Nat.reduceLeDiff, Int.reduceToNat, Int.reduceLT, Int.reduceLE, Int.reduceEq, reduceCtorEq, ↓reduceIte, X31_2, k31_2, b7, w16, b18]
theorem e31r (rc : l6T → (List Int) → Int → Option (List Int)) (hrc : ∀ (a0 : l6T) (a1 : (List Int)) (a2 : Int) (r : (List Int)), rc a0 a1 a2 = some r → evFL T 31 [.agg [.int .i64 a0.kind_, .int .i64 a0.n_, .ts .imm 3 (a0.kids_.map (encl6T .imm))], .ts .imm 1 (a1.map encInt), .int .i64 a2] [] = some (.sl 0 0 r.length, [some ⟨.arr, 1, r.map encInt⟩])) (a0 : l6T) (a1 : (List Int)) (a2 : Int) (r : (List Int)) (h : m31r rc a0 a1 a2 = some r) : evFL T 31 [.agg [.int .i64 a0.kind_, .int .i64 a0.n_, .ts .imm 3 (a0.kids_.map (encl6T .imm))], .ts .imm 1 (a1.map encInt), .int .i64 a2] [] = some (.sl 0 0 r.length, [some ⟨.arr, 1, r.map encInt⟩]) := by
  unfold m31r at h
  rw [evFL_at fn31 (Nat.le_of_ble_eq_true rfl) rfl (.inr rfl) ⟨rfl, rfl⟩]
  try simp -implicitDefEqProofs only [go_sem, Nat.reduceLT, Nat.reduceAdd, Nat.reduceSub, Nat.reduceMul, Nat.reduceEqDiff, Nat.reduceBEq, Nat.reduceLeDiff, Int.reduceToNat, Int.reduceLT, Int.reduceLE, Int.reduceEq, reduceCtorEq, ↓reduceIte, i31, c31]
  cases b1 : (eqI a0.kind_ 2 : Bool)
  · replace h := br_f b1 h
    obtain ⟨v6, q4, h⟩ := bnd_some h
    have w5 := e31_1 rc hrc a1 a2 a0 (eqI a0.kind_ 3) v6 q4
    simp only [X31_1] at w5
    try simp -implicitDefEqProofs only [go_sem, Nat.reduceLT, Nat.reduceAdd, Nat.reduceSub, Nat.reduceMul, Nat.reduceEqDiff, Nat.reduceBEq, Nat.reduceLeDiff, Int.reduceToNat, Int.reduceLT, Int.reduceLE, Int.reduceEq, reduceCtorEq, ↓reduceIte] at w5
    try simp -implicitDefEqProofs only [go_sem, Nat.reduceLT, Nat.reduceAdd, Nat.reduceSub, Nat.reduceMul, Nat.reduceEqDiff, Nat.reduceBEq, Nat.reduceLeDiff, Int.reduceToNat, Int.reduceLT, Int.reduceLE, Int.reduceEq, reduceCtorEq, ↓reduceIte, i31, c31, b1, w5]
    obtain ⟨o, q327, h⟩ := bnd_some h
    rcases o with ⟨⟩ | v329
    · replace h := selS_l h
      have w328 := e31_2 rc hrc a1 a2 a0 v6 (.inl ()) q327
      simp only [X31_2] at w328
      try simp -implicitDefEqProofs only [go_sem, Nat.reduceLT, Nat.reduceAdd, Nat.reduceSub, Nat.reduceMul, Nat.reduceEqDiff, Nat.reduceBEq, Nat.reduceLeDiff, Int.reduceToNat, Int.reduceLT, Int.reduceLE, Int.reduceEq, reduceCtorEq, ↓reduceIte] at w328
      cases h
      simp -implicitDefEqProofs only [go_sem, Nat.reduceLT, Nat.reduceAdd, Nat.reduceSub, Nat.reduceMul, Nat.reduceEqDiff, Nat.reduceBEq, Nat.reduceLeDiff, Int.reduceToNat, Int.reduceLT, Int.reduceLE, Int.reduceEq, reduceCtorEq, ↓reduceIte, i31, c31, b1, w5, w328]
    · replace h := selS_r h
      have w328 := e31_2 rc hrc a1 a2 a0 v6 (.inr v329) q327
      simp only [X31_2] at w328
      try simp -implicitDefEqProofs only [go_sem, Nat.reduceLT, Nat.reduceAdd, Nat.reduceSub, Nat.reduceMul, Nat.reduceEqDiff, Nat.reduceBEq, Nat.reduceLeDiff, Int.reduceToNat, Int.reduceLT, Int.reduceLE, Int.reduceEq, reduceCtorEq, ↓reduceIte] at w328
      cases h
      simp -implicitDefEqProofs only [go_sem, Nat.reduceLT, Nat.reduceAdd, Nat.reduceSub, Nat.reduceMul, Nat.reduceEqDiff, Nat.reduceBEq, Nat.reduceLeDiff, Int.reduceToNat, Int.reduceLT, Int.reduceLE, Int.reduceEq, reduceCtorEq, ↓reduceIte, i31, c31, b1, w5, w328]
  · replace h := br_t b1 h
    cases h
    simp -implicitDefEqProofs only [go_sem, Nat.reduceLT, Nat.reduceAdd, Nat.reduceSub, Nat.reduceMul, Nat.reduceEqDiff, Nat.reduceBEq, Nat.reduceLeDiff, Int.reduceToNat, Int.reduceLT, Int.reduceLE, Int.reduceEq, reduceCtorEq, ↓reduceIte, i31, c31, b1]
theorem e31k : ∀ (k : Nat) (a0 : l6T) (a1 : (List Int)) (a2 : Int) (r : (List Int)) (h : m31k k a0 a1 a2 = some r), evFL T 31 [.agg [.int .i64 a0.kind_, .int .i64 a0.n_, .ts .imm 3 (a0.kids_.map (encl6T .imm))], .ts .imm 1 (a1.map encInt), .int .i64 a2] [] = some (.sl 0 0 r.length, [some ⟨.arr, 1, r.map encInt⟩]) := by
  intro k
  induction k with
  | zero => intro a0 a1 a2 r h; cases h
  | succ k ih => intro a0 a1 a2 r h; exact e31r (m31k k) (fun a0 a1 a2 r h => ih a0 a1 a2 r h) a0 a1 a2 r h
theorem e31 (a0 : l6T) (a1 : (List Int)) (a2 : Int) (r : (List Int)) (h : m31 a0 a1 a2 = some r) : evFL T 31 [.agg [.int .i64 a0.kind_, .int .i64 a0.n_, .ts .imm 3 (a0.kids_.map (encl6T .imm))], .ts .imm 1 (a1.map encInt), .int .i64 a2] [] = some (.sl 0 0 r.length, [some ⟨.arr, 1, r.map encInt⟩]) := by
  obtain ⟨N, hN⟩ := limO_iff.1 h
  exact e31k N a0 a1 a2 r (hN N (Nat.le_refl N))
-- f30 spec.l1Has
theorem call30 (args : List AV) (S : St) : evCall T (evFL T) 30 args S = lendC (evFL T 30) S (lendAll S [[1], [0]] args) := evCall0 fn30 rfl rfl rfl args S
theorem callz30 (args : List AV) (S : St) : evCallFz T (evFL T) 30 args S = lendZ (evFL T 30) S [[0]] (lendAll S [[1], [0]] args) := evCallFz0 fn30 rfl rfl rfl args S
attribute [go_sem] call30 callz30
noncomputable def X30_1 (a1 : Int) (a0 : (List Int)) (p1 : Int) (o : (Unit ⊕ Unit)) : Ex × Fr × St :=
  match o with
  | .inl o => (.exit 0, frOf 17 (anyF), [])
  | .inr o => (.ret, frOf 17 (upd anyF 4 (.bool true)), [])
noncomputable def E30_1 (a1 : Int) (a0 : (List Int)) (p1 : Int) (s : Int) : Fr × St := (frOf 17 (upd (upd (upd (upd anyF 1 (.int .i64 a1)) 7 (.ts .imm 1 (a0.map encInt))) 8 (.int .i64 p1)) 9 (.int .i64 s)), [])
theorem b30_1 (a1 : Int) (a0 : (List Int)) (p1 : Int) (s : Int) (o : Ctl Int (Unit ⊕ Unit)) (h : m30_1b a1 a0 p1 s = some o) : evCL T 0 k30_1b (E30_1 a1 a0 p1 s).1 (E30_1 a1 a0 p1 s).2 = some (ctlX (E30_1 a1 a0 p1) (X30_1 a1 a0 p1) o) := by
  unfold m30_1b at h
  revert h
  generalize s = s9
  intro h
  try simp -implicitDefEqProofs only [go_sem, Nat.reduceLT, Nat.reduceAdd, Nat.reduceSub, Nat.reduceMul, Nat.reduceEqDiff, Nat.reduceBEq, Nat.reduceLeDiff, Int.reduceToNat, Int.reduceLT, Int.reduceLE, Int.reduceEq, reduceCtorEq, ↓reduceIte, E30_1, X30_1, k30_1b]
  cases b10 : (ltI s9 p1 : Bool)
  · replace h := br_f b10 h
    cases h
    simp -implicitDefEqProofs only [go_sem, Nat.reduceLT, Nat.reduceAdd, Nat.reduceSub, Nat.reduceMul, Nat.reduceEqDiff, Nat.reduceBEq, Nat.reduceLeDiff, Int.reduceToNat, Int.reduceLT, Int.reduceLE, Int.reduceEq, reduceCtorEq, ↓reduceIte, E30_1, X30_1, k30_1b, b10]
  · replace h := br_t b10 h
    obtain ⟨x11, q12, h⟩ := bnd_some h
    obtain ⟨g13, g14, g15⟩ := idx_row encInt q12
    try simp -implicitDefEqProofs only [go_sem, Nat.reduceLT, Nat.reduceAdd, Nat.reduceSub, Nat.reduceMul, Nat.reduceEqDiff, Nat.reduceBEq, Nat.reduceLeDiff, Int.reduceToNat, Int.reduceLT, Int.reduceLE, Int.reduceEq, reduceCtorEq, ↓reduceIte] at g14
    try simp -implicitDefEqProofs only [go_sem, Nat.reduceLT, Nat.reduceAdd, Nat.reduceSub, Nat.reduceMul, Nat.reduceEqDiff, Nat.reduceBEq, Nat.reduceLeDiff, Int.reduceToNat, Int.reduceLT, Int.reduceLE, Int.reduceEq, reduceCtorEq, ↓reduceIte] at g15
    try simp -implicitDefEqProofs only [go_sem, Nat.reduceLT, Nat.reduceAdd, Nat.reduceSub, Nat.reduceMul, Nat.reduceEqDiff, Nat.reduceBEq, Nat.reduceLeDiff, Int.reduceToNat, Int.reduceLT, Int.reduceLE, Int.reduceEq, reduceCtorEq, ↓reduceIte, E30_1, X30_1, k30_1b, b10, g13, g14, g15]
    cases b16 : (eqI x11 a1 : Bool)
    · replace h := br_f b16 h
      cases h
      simp -implicitDefEqProofs only [go_sem, Nat.reduceLT, Nat.reduceAdd, Nat.reduceSub, Nat.reduceMul, Nat.reduceEqDiff, Nat.reduceBEq, Nat.reduceLeDiff, Int.reduceToNat, Int.reduceLT, Int.reduceLE, Int.reduceEq, reduceCtorEq, ↓reduceIte, E30_1, X30_1, k30_1b, b10, g13, g14, g15, b16]
    · replace h := br_t b16 h
      cases h
      simp -implicitDefEqProofs only [go_sem, Nat.reduceLT, Nat.reduceAdd, Nat.reduceSub, Nat.reduceMul, Nat.reduceEqDiff, Nat.reduceBEq, Nat.reduceLeDiff, Int.reduceToNat, Int.reduceLT, Int.reduceLE, Int.reduceEq, reduceCtorEq, ↓reduceIte, E30_1, X30_1, k30_1b, b10, g13, g14, g15, b16]
theorem e30_1 (a1 : Int) (a0 : (List Int)) (p1 : Int) (s : Int) (o : (Unit ⊕ Unit)) (h : loopP (m30_1b a1 a0 p1) s = some o) : evCL T 0 (.loop k30_1b) (E30_1 a1 a0 p1 s).1 (E30_1 a1 a0 p1 s).2 = some (X30_1 a1 a0 p1 o) :=
  loop_walk (E := E30_1 a1 a0 p1) (X := X30_1 a1 a0 p1) (by intro b; rcases b with b | b <;> (simp only [X30_1]; nofun)) (b30_1 a1 a0 p1) s o h
theorem e30 (a0 : (List Int)) (a1 : Int) (r : Bool) (h : m30 a0 a1 = some r) : evFL T 30 [.ts .imm 1 (a0.map encInt), .int .i64 a1] [] = some (.bool r, []) := by
  unfold m30 at h
  rw [evFL_at fn30 (Nat.le_of_ble_eq_true rfl) rfl (.inr rfl) ⟨rfl, rfl⟩]
  try simp -implicitDefEqProofs only [go_sem, Nat.reduceLT, Nat.reduceAdd, Nat.reduceSub, Nat.reduceMul, Nat.reduceEqDiff, Nat.reduceBEq, Nat.reduceLeDiff, Int.reduceToNat, Int.reduceLT, Int.reduceLE, Int.reduceEq, reduceCtorEq, ↓reduceIte, i30, c30]
  obtain ⟨o, q17, h⟩ := bnd_some h
  rcases o with ⟨⟩ | ⟨⟩
  · replace h := selS_l h
    have w18 := e30_1 a1 a0 (↑a0.length : Int) 0 (.inl ()) q17
    simp only [E30_1, X30_1] at w18
    try simp -implicitDefEqProofs only [go_sem, Nat.reduceLT, Nat.reduceAdd, Nat.reduceSub, Nat.reduceMul, Nat.reduceEqDiff, Nat.reduceBEq, Nat.reduceLeDiff, Int.reduceToNat, Int.reduceLT, Int.reduceLE, Int.reduceEq, reduceCtorEq, ↓reduceIte] at w18
    cases h
    simp -implicitDefEqProofs only [go_sem, Nat.reduceLT, Nat.reduceAdd, Nat.reduceSub, Nat.reduceMul, Nat.reduceEqDiff, Nat.reduceBEq, Nat.reduceLeDiff, Int.reduceToNat, Int.reduceLT, Int.reduceLE, Int.reduceEq, reduceCtorEq, ↓reduceIte, i30, c30, w18]
  · replace h := selS_r h
    have w18 := e30_1 a1 a0 (↑a0.length : Int) 0 (.inr ()) q17
    simp only [E30_1, X30_1] at w18
    try simp -implicitDefEqProofs only [go_sem, Nat.reduceLT, Nat.reduceAdd, Nat.reduceSub, Nat.reduceMul, Nat.reduceEqDiff, Nat.reduceBEq, Nat.reduceLeDiff, Int.reduceToNat, Int.reduceLT, Int.reduceLE, Int.reduceEq, reduceCtorEq, ↓reduceIte] at w18
    cases h
    simp -implicitDefEqProofs only [go_sem, Nat.reduceLT, Nat.reduceAdd, Nat.reduceSub, Nat.reduceMul, Nat.reduceEqDiff, Nat.reduceBEq, Nat.reduceLeDiff, Int.reduceToNat, Int.reduceLT, Int.reduceLE, Int.reduceEq, reduceCtorEq, ↓reduceIte, i30, c30, w18]
-- f7 spec.MatchPath
theorem call7 (args : List AV) (S : St) : evCall T (evFL T) 7 args S = lendC (evFL T 7) S (lendAll S [[2], [1]] args) := evCall0 fn7 rfl rfl rfl args S
theorem callz7 (args : List AV) (S : St) : evCallFz T (evFL T) 7 args S = lendZ (evFL T 7) S [[0], [0]] (lendAll S [[2], [1]] args) := evCallFz0 fn7 rfl rfl rfl args S
attribute [go_sem] call7 callz7
noncomputable def X7_1 (a1 : (List Int)) (r4 : Bool) (r3 : l6T) (o : Bool) : Ex × Fr × St :=
  (.normal, frOf 26 (upd (upd (upd anyF 1 (.ts .imm 1 (a1.map encInt))) 6 (.ptr 0 0 0)) 19 (.bool o)), [some ⟨.box, 3, [[.int .i64 r3.kind_, .int .i64 r3.n_, .sl 1 0 r3.kids_.length]]⟩, some ⟨.arr, 3, r3.kids_.map (encl6T .own)⟩])
theorem e7_1 (a1 : (List Int)) (r4 : Bool) (r3 : l6T) (o : Bool) (h : m7_1 a1 r4 = some o) : evCL T 0 k7_1 (frOf 26 (upd (upd (upd anyF 1 (.ts .imm 1 (a1.map encInt))) 6 (.ptr 0 0 0)) 7 (.bool r4))) [some ⟨.box, 3, [[.int .i64 r3.kind_, .int .i64 r3.n_, .sl 1 0 r3.kids_.length]]⟩, some ⟨.arr, 3, r3.kids_.map (encl6T .own)⟩] = some (X7_1 a1 r4 r3 o) := by
  unfold m7_1 at h
  try simp -implicitDefEqProofs only [go_sem, Nat.reduceLT, Nat.reduceAdd, Nat.reduceSub, Nat.reduceMul, Nat.reduceEqDiff, Nat.reduceBEq, Nat.reduceLeDiff, Int.reduceToNat, Int.reduceLT, Int.reduceLE, Int.reduceEq, reduceCtorEq, ↓reduceIte, X7_1, k7_1]
  cases b5 : (r4 : Bool)
  · replace h := br_f b5 h
    cases h
    simp -implicitDefEqProofs only [go_sem, Nat.reduceLT, Nat.reduceAdd, Nat.reduceSub, Nat.reduceMul, Nat.reduceEqDiff, Nat.reduceBEq, Nat.reduceLeDiff, Int.reduceToNat, Int.reduceLT, Int.reduceLE, Int.reduceEq, reduceCtorEq, ↓reduceIte, X7_1, k7_1, b5]
  · replace h := br_t b5 h
    obtain ⟨r8, q6, h⟩ := bnd_some h
    have w7 := e29 a1 r8 q6
    try simp -implicitDefEqProofs only [go_sem, Nat.reduceLT, Nat.reduceAdd, Nat.reduceSub, Nat.reduceMul, Nat.reduceEqDiff, Nat.reduceBEq, Nat.reduceLeDiff, Int.reduceToNat, Int.reduceLT, Int.reduceLE, Int.reduceEq, reduceCtorEq, ↓reduceIte] at w7
    cases h
    simp -implicitDefEqProofs only [go_sem, Nat.reduceLT, Nat.reduceAdd, Nat.reduceSub, Nat.reduceMul, Nat.reduceEqDiff, Nat.reduceBEq, Nat.reduceLeDiff, Int.reduceToNat, Int.reduceLT, Int.reduceLE, Int.reduceEq, reduceCtorEq, ↓reduceIte, X7_1, k7_1, b5, w7]
theorem e7 (a0 : (List ReCell)) (a1 : (List Int)) (r : (Bool × Bool)) (h : m7 a0 a1 = some r) : evFL T 7 [.ts .imm 2 (a0.map encReCell), .ts .imm 1 (a1.map encInt)] [] = some (.tup [.bool r.1, .bool r.2], []) := by
  unfold m7 at h
  rw [evFL_at fn7 (Nat.le_of_ble_eq_true rfl) rfl (.inr rfl) ⟨rfl, rfl⟩]
  obtain ⟨⟨r3, r4⟩, q1, h⟩ := bnd_some h
  replace h := sel2_some h
  have w2 := e28 a0 (r3, r4) q1
  try simp -implicitDefEqProofs only [go_sem, Nat.reduceLT, Nat.reduceAdd, Nat.reduceSub, Nat.reduceMul, Nat.reduceEqDiff, Nat.reduceBEq, Nat.reduceLeDiff, Int.reduceToNat, Int.reduceLT, Int.reduceLE, Int.reduceEq, reduceCtorEq, ↓reduceIte] at w2
  obtain ⟨v11, q9, h⟩ := bnd_some h
  have w10 := e7_1 a1 r4 r3 v11 q9
  simp only [X7_1] at w10
  try simp -implicitDefEqProofs only [go_sem, Nat.reduceLT, Nat.reduceAdd, Nat.reduceSub, Nat.reduceMul, Nat.reduceEqDiff, Nat.reduceBEq, Nat.reduceLeDiff, Int.reduceToNat, Int.reduceLT, Int.reduceLE, Int.reduceEq, reduceCtorEq, ↓reduceIte] at w10
  try simp -implicitDefEqProofs only [go_sem, Nat.reduceLT, Nat.reduceAdd, Nat.reduceSub, Nat.reduceMul, Nat.reduceEqDiff, Nat.reduceBEq, Nat.reduceLeDiff, Int.reduceToNat, Int.reduceLT, Int.reduceLE, Int.reduceEq, reduceCtorEq, ↓reduceIte, i7, c7, w2, w10]
  cases b12 : (v11 : Bool)
  · replace h := br_f b12 h
    obtain ⟨r15, q13, h⟩ := bnd_some h
    have w14 := e31 r3 a1 0 r15 q13
    try simp -implicitDefEqProofs only [go_sem, Nat.reduceLT, Nat.reduceAdd, Nat.reduceSub, Nat.reduceMul, Nat.reduceEqDiff, Nat.reduceBEq, Nat.reduceLeDiff, Int.reduceToNat, Int.reduceLT, Int.reduceLE, Int.reduceEq, reduceCtorEq, ↓reduceIte] at w14
    obtain ⟨r18, q16, h⟩ := bnd_some h
    have w17 := e30 r15 (↑a1.length : Int) r18 q16
    try simp -implicitDefEqProofs only [go_sem, Nat.reduceLT, Nat.reduceAdd, Nat.reduceSub, Nat.reduceMul, Nat.reduceEqDiff, Nat.reduceBEq, Nat.reduceLeDiff, Int.reduceToNat, Int.reduceLT, Int.reduceLE, Int.reduceEq, reduceCtorEq, ↓reduceIte] at w17
    cases h
    simp -implicitDefEqProofs only [go_sem, Nat.reduceLT, Nat.reduceAdd, Nat.reduceSub, Nat.reduceMul, Nat.reduceEqDiff, Nat.reduceBEq, Nat.reduceLeDiff, Int.reduceToNat, Int.reduceLT, Int.reduceLE, Int.reduceEq, reduceCtorEq, ↓reduceIte, i7, c7, w2, w10, b12, w14, w17]
  · replace h := br_t b12 h
    cases h
    simp -implicitDefEqProofs only [go_sem, Nat.reduceLT, Nat.reduceAdd, Nat.reduceSub, Nat.reduceMul, Nat.reduceEqDiff, Nat.reduceBEq, Nat.reduceLeDiff, Int.reduceToNat, Int.reduceLT, Int.reduceLE, Int.reduceEq, reduceCtorEq, ↓reduceIte, i7, c7, w2, w10, b12]
-- f51 impl.within
theorem call51 (args : List AV) (S : St) : evCall T (evFL T) 51 args S = lendC (evFL T 51) S (lendAll S [[0], [0], [0]] args) := evCall0 fn51 rfl rfl rfl args S
theorem callz51 (args : List AV) (S : St) : evCallFz T (evFL T) 51 args S = lendZ (evFL T 51) S [[0]] (lendAll S [[0], [0], [0]] args) := evCallFz0 fn51 rfl rfl rfl args S
attribute [go_sem] call51 callz51
noncomputable def X51_1 (a0 : Int) (a1 : Int) (a2 : Int) (o : Bool) : Ex × Fr × St :=
  (.normal, frOf 15 (upd anyF 6 (.bool o)), [])
theorem e51_1 (a0 : Int) (a1 : Int) (a2 : Int) (o : Bool) (h : m51_1 a0 a1 a2 = some o) : evCL T 0 k51_1 (frOf 15 (upd (upd (upd anyF 0 (.int .i64 a0)) 1 (.int .i64 a1)) 2 (.int .i64 a2))) [] = some (X51_1 a0 a1 a2 o) := by
  unfold m51_1 at h
  try simp -implicitDefEqProofs only [go_sem, Nat.reduceLT, Nat.reduceAdd, Nat.reduceSub, Nat.reduceMul, Nat.reduceEqDiff, Nat.reduceBEq, Nat.reduceLeDiff, Int.reduceToNat, Int.reduceLT, Int.reduceLE, Int.reduceEq, reduceCtorEq, ↓reduceIte, X51_1, k51_1]
  cases b1 : (leI a1 a0 : Bool)
  · replace h := br_f b1 h
    cases h
    simp -implicitDefEqProofs only [go_sem, Nat.reduceLT, Nat.reduceAdd, Nat.reduceSub, Nat.reduceMul, Nat.reduceEqDiff, Nat.reduceBEq, Nat.reduceLeDiff, Int.reduceToNat, Int.reduceLT, Int.reduceLE, Int.reduceEq, reduceCtorEq, ↓reduceIte, X51_1, k51_1, b1]
  · replace h := br_t b1 h
    cases h
    simp -implicitDefEqProofs only [go_sem, Nat.reduceLT, Nat.reduceAdd, Nat.reduceSub, Nat.reduceMul, Nat.reduceEqDiff, Nat.reduceBEq, Nat.reduceLeDiff, Int.reduceToNat, Int.reduceLT, Int.reduceLE, Int.reduceEq, reduceCtorEq, ↓reduceIte, X51_1, k51_1, b1]
theorem e51 (a0 : Int) (a1 : Int) (a2 : Int) (r : Bool) (h : m51 a0 a1 a2 = some r) : evFL T 51 [.int .i64 a0, .int .i64 a1, .int .i64 a2] [] = some (.bool r, []) := by
  unfold m51 at h
  rw [evFL_at fn51 (Nat.le_of_ble_eq_true rfl) rfl (.inr rfl) ⟨rfl, rfl⟩]
  obtain ⟨v4, q2, h⟩ := bnd_some h
  have w3 := e51_1 a0 a1 a2 v4 q2
  simp only [X51_1] at w3
  try simp -implicitDefEqProofs only [go_sem, Nat.reduceLT, Nat.reduceAdd, Nat.reduceSub, Nat.reduceMul, Nat.reduceEqDiff, Nat.reduceBEq, Nat.reduceLeDiff, Int.reduceToNat, Int.reduceLT, Int.reduceLE, Int.reduceEq, reduceCtorEq, ↓reduceIte] at w3
  cases h
  simp -implicitDefEqProofs only [go_sem, Nat.reduceLT, Nat.reduceAdd, Nat.reduceSub, Nat.reduceMul, Nat.reduceEqDiff, Nat.reduceBEq, Nat.reduceLeDiff, Int.reduceToNat, Int.reduceLT, Int.reduceLE, Int.reduceEq, reduceCtorEq, ↓reduceIte, i51, c51, w3]
-- f67 impl.partsOf
theorem call67 (args : List AV) (S : St) : evCall T (evFL T) 67 args S = lendC (evFL T 67) S (lendAll S [[0]] args) := evCall0 fn67 rfl rfl rfl args S
theorem callz67 (args : List AV) (S : St) : evCallFz T (evFL T) 67 args S = lendZ (evFL T 67) S [[0]] (lendAll S [[0]] args) := evCallFz0 fn67 rfl rfl rfl args S
attribute [go_sem] call67 callz67
noncomputable def X67_3 (a0 : Int) (p5 : Bool) (o : Bool) : Ex × Fr × St :=
  (.normal, frOf 14 (upd (upd anyF 3 (.int .i64 a0)) 4 (.bool o)), [])
theorem e67_3 (a0 : Int) (p5 : Bool) (o : Bool) (h : m67_3 a0 p5 = some o) : evCL T 0 k67_3 (frOf 14 (upd (upd anyF 3 (.int .i64 a0)) 4 (.bool p5))) [] = some (X67_3 a0 p5 o) := by
  unfold m67_3 at h
  try simp -implicitDefEqProofs only [go_sem, Nat.reduceLT, Nat.reduceAdd, Nat.reduceSub, Nat.reduceMul, Nat.reduceEqDiff, Nat.reduceBEq, Nat.reduceLeDiff, Int.reduceToNat, Int.reduceLT, Int.reduceLE, Int.reduceEq, reduceCtorEq, ↓reduceIte, X67_3, k67_3]
  cases b6 : (p5 : Bool)
  · replace h := br_f b6 h
    cases h
    simp -implicitDefEqProofs only [go_sem, Nat.reduceLT, Nat.reduceAdd, Nat.reduceSub, Nat.reduceMul, Nat.reduceEqDiff, Nat.reduceBEq, Nat.reduceLeDiff, Int.reduceToNat, Int.reduceLT, Int.reduceLE, Int.reduceEq, reduceCtorEq, ↓reduceIte, X67_3, k67_3, b6]
  · replace h := br_t b6 h
    cases h
    simp -implicitDefEqProofs only [go_sem, Nat.reduceLT, Nat.reduceAdd, Nat.reduceSub, Nat.reduceMul, Nat.reduceEqDiff, Nat.reduceBEq, Nat.reduceLeDiff, Int.reduceToNat, Int.reduceLT, Int.reduceLE, Int.reduceEq, reduceCtorEq, ↓reduceIte, X67_3, k67_3, b6]
noncomputable def X67_2 (a0 : Int) (p3 : Bool) (o : Bool) : Ex × Fr × St :=
  (.normal, frOf 14 (upd (upd anyF 3 (.int .i64 a0)) 4 (.bool o)), [])
theorem e67_2 (a0 : Int) (p3 : Bool) (o : Bool) (h : m67_2 a0 p3 = some o) : evCL T 0 k67_2 (frOf 14 (upd (upd anyF 3 (.int .i64 a0)) 4 (.bool p3))) [] = some (X67_2 a0 p3 o) := by
  unfold m67_2 at h
  try simp -implicitDefEqProofs only [go_sem, Nat.reduceLT, Nat.reduceAdd, Nat.reduceSub, Nat.reduceMul, Nat.reduceEqDiff, Nat.reduceBEq, Nat.reduceLeDiff, Int.reduceToNat, Int.reduceLT, Int.reduceLE, Int.reduceEq, reduceCtorEq, ↓reduceIte, X67_2, k67_2]
  cases b4 : (p3 : Bool)
  · replace h := br_f b4 h
    obtain ⟨v9, q7, h⟩ := bnd_some h
    have w8 := e67_3 a0 (eqI a0 3) v9 q7
    simp only [X67_3] at w8
    try simp -implicitDefEqProofs only [go_sem, Nat.reduceLT, Nat.reduceAdd, Nat.reduceSub, Nat.reduceMul, Nat.reduceEqDiff, Nat.reduceBEq, Nat.reduceLeDiff, Int.reduceToNat, Int.reduceLT, Int.reduceLE, Int.reduceEq, reduceCtorEq, ↓reduceIte] at w8
    cases h
    simp -implicitDefEqProofs only [go_sem, Nat.reduceLT, Nat.reduceAdd, Nat.reduceSub, Nat.reduceMul, Nat.reduceEqDiff, Nat.reduceBEq, Nat.reduceLeDiff, Int.reduceToNat, Int.reduceLT, Int.reduceLE, Int.reduceEq, reduceCtorEq, ↓reduceIte, X67_2, k67_2, b4, w8]
  · replace h := br_t b4 h
    cases h
    simp -implicitDefEqProofs only [go_sem, Nat.reduceLT, Nat.reduceAdd, Nat.reduceSub, Nat.reduceMul, Nat.reduceEqDiff, Nat.reduceBEq, Nat.reduceLeDiff, Int.reduceToNat, Int.reduceLT, Int.reduceLE, Int.reduceEq, reduceCtorEq, ↓reduceIte, X67_2, k67_2, b4]
noncomputable def X67_1 (a0 : Int) (p1 : Bool) (o : Bool) : Ex × Fr × St :=
  (.normal, frOf 14 (upd (upd anyF 3 (.int .i64 a0)) 4 (.bool o)), [])
theorem e67_1 (a0 : Int) (p1 : Bool) (o : Bool) (h : m67_1 a0 p1 = some o) : evCL T 0 k67_1 (frOf 14 (upd (upd anyF 3 (.int .i64 a0)) 4 (.bool p1))) [] = some (X67_1 a0 p1 o) := by
  unfold m67_1 at h
  try simp -implicitDefEqProofs only [go_sem, Nat.reduceLT, Nat.reduceAdd, Nat.reduceSub, Nat.reduceMul, Nat.reduceEqDiff, Nat.reduceBEq, Nat.reduceLeDiff, Int.reduceToNat, Int.reduceLT, Int.reduceLE, Int.reduceEq, reduceCtorEq, ↓reduceIte, X67_1, k67_1]
  cases b2 : (p1 : Bool)
  · replace h := br_f b2 h
    obtain ⟨v12, q10, h⟩ := bnd_some h
    have w11 := e67_2 a0 (eqI a0 2) v12 q10
    simp only [X67_2] at w11
    try simp -implicitDefEqProofs only [go_sem, Nat.reduceLT, Nat.reduceAdd, Nat.reduceSub, Nat.reduceMul, Nat.reduceEqDiff, Nat.reduceBEq, Nat.reduceLeDiff, Int.reduceToNat, Int.reduceLT, Int.reduceLE, Int.reduceEq, reduceCtorEq, ↓reduceIte] at w11
    cases h
    simp -implicitDefEqProofs only [go_sem, Nat.reduceLT, Nat.reduceAdd, Nat.reduceSub, Nat.reduceMul, Nat.reduceEqDiff, Nat.reduceBEq, Nat.reduceLeDiff, Int.reduceToNat, Int.reduceLT, Int.reduceLE, Int.reduceEq, reduceCtorEq, ↓reduceIte, X67_1, k67_1, b2, w11]
  · replace h := br_t b2 h
    cases h
    simp -implicitDefEqProofs only [go_sem, Nat.reduceLT, Nat.reduceAdd, Nat.reduceSub, Nat.reduceMul, Nat.reduceEqDiff, Nat.reduceBEq, Nat.reduceLeDiff, Int.reduceToNat, Int.reduceLT, Int.reduceLE, Int.reduceEq, reduceCtorEq, ↓reduceIte, X67_1, k67_1, b2]
noncomputable def X67_4 (a0 : Int) (p18 : Bool) (o : Bool) : Ex × Fr × St :=
  (.normal, frOf 14 (upd anyF 11 (.bool o)), [])
theorem e67_4 (a0 : Int) (p18 : Bool) (o : Bool) (h : m67_4 a0 p18 = some o) : evCL T 0 k67_4 (frOf 14 (upd (upd anyF 3 (.int .i64 a0)) 11 (.bool p18))) [] = some (X67_4 a0 p18 o) := by
  unfold m67_4 at h
  try simp -implicitDefEqProofs only [go_sem, Nat.reduceLT, Nat.reduceAdd, Nat.reduceSub, Nat.reduceMul, Nat.reduceEqDiff, Nat.reduceBEq, Nat.reduceLeDiff, Int.reduceToNat, Int.reduceLT, Int.reduceLE, Int.reduceEq, reduceCtorEq, ↓reduceIte, X67_4, k67_4]
  cases b19 : (p18 : Bool)
  · replace h := br_f b19 h
    cases h
    simp -implicitDefEqProofs only [go_sem, Nat.reduceLT, Nat.reduceAdd, Nat.reduceSub, Nat.reduceMul, Nat.reduceEqDiff, Nat.reduceBEq, Nat.reduceLeDiff, Int.reduceToNat, Int.reduceLT, Int.reduceLE, Int.reduceEq, reduceCtorEq, ↓reduceIte, X67_4, k67_4, b19]
  · replace h := br_t b19 h
    cases h
    simp -implicitDefEqProofs only [go_sem, Nat.reduceLT, Nat.reduceAdd, Nat.reduceSub, Nat.reduceMul, Nat.reduceEqDiff, Nat.reduceBEq, Nat.reduceLeDiff, Int.reduceToNat, Int.reduceLT, Int.reduceLE, Int.reduceEq, reduceCtorEq, ↓reduceIte, X67_4, k67_4, b19]
theorem e67 (a0 : Int) (r : Int) (h : m67 a0 = some r) : evFL T 67 [.int .i64 a0] [] = some (.int .i64 r, []) := by
  unfold m67 at h
  rw [evFL_at fn67 (Nat.le_of_ble_eq_true rfl) rfl (.inr rfl) ⟨rfl, rfl⟩]
  obtain ⟨v15, q13, h⟩ := bnd_some h
  have w14 := e67_1 a0 (eqI a0 1) v15 q13
  simp only [X67_1] at w14
  try simp -implicitDefEqProofs only [go_sem, Nat.reduceLT, Nat.reduceAdd, Nat.reduceSub, Nat.reduceMul, Nat.reduceEqDiff, Nat.reduceBEq, Nat.reduceLeDiff, Int.reduceToNat, Int.reduceLT, Int.reduceLE, Int.reduceEq, reduceCtorEq, ↓reduceIte] at w14
  try simp -implicitDefEqProofs only [go_sem, Nat.reduceLT, Nat.reduceAdd, Nat.reduceSub, Nat.reduceMul, Nat.reduceEqDiff, Nat.reduceBEq, Nat.reduceLeDiff, Int.reduceToNat, Int.reduceLT, Int.reduceLE, Int.reduceEq, reduceCtorEq, ↓reduceIte, i67, c67, w14]
  cases b16 : (v15 : Bool)
  · replace h := br_f b16 h
    try simp -implicitDefEqProofs only [go_sem, Nat.reduceLT, Nat.reduceAdd, Nat.reduceSub, Nat.reduceMul, Nat.reduceEqDiff, Nat.reduceBEq, Nat.reduceLeDiff, Int.reduceToNat, Int.reduceLT, Int.reduceLE, Int.reduceEq, reduceCtorEq, ↓reduceIte, i67, c67, w14, b16]
    cases b17 : (eqI a0 7 : Bool)
    · replace h := br_f b17 h
      obtain ⟨v22, q20, h⟩ := bnd_some h
      have w21 := e67_4 a0 (eqI a0 5) v22 q20
      simp only [X67_4] at w21
      try simp -implicitDefEqProofs only [go_sem, Nat.reduceLT, Nat.reduceAdd, Nat.reduceSub, Nat.reduceMul, Nat.reduceEqDiff, Nat.reduceBEq, Nat.reduceLeDiff, Int.reduceToNat, Int.reduceLT, Int.reduceLE, Int.reduceEq, reduceCtorEq, ↓reduceIte] at w21
      try simp -implicitDefEqProofs only [go_sem, Nat.reduceLT, Nat.reduceAdd, Nat.reduceSub, Nat.reduceMul, Nat.reduceEqDiff, Nat.reduceBEq, Nat.reduceLeDiff, Int.reduceToNat, Int.reduceLT, Int.reduceLE, Int.reduceEq, reduceCtorEq, ↓reduceIte, i67, c67, w14, b16, b17, w21]
      cases b23 : (v22 : Bool)
      · replace h := br_f b23 h
        cases h
        simp -implicitDefEqProofs only [go_sem, Nat.reduceLT, Nat.reduceAdd, Nat.reduceSub, Nat.reduceMul, Nat.reduceEqDiff, Nat.reduceBEq, Nat.reduceLeDiff, Int.reduceToNat, Int.reduceLT, Int.reduceLE, Int.reduceEq, reduceCtorEq, ↓reduceIte, i67, c67, w14, b16, b17, w21, b23]
      · replace h := br_t b23 h
        cases h
        simp -implicitDefEqProofs only [go_sem, Nat.reduceLT, Nat.reduceAdd, Nat.reduceSub, Nat.reduceMul, Nat.reduceEqDiff, Nat.reduceBEq, Nat.reduceLeDiff, Int.reduceToNat, Int.reduceLT, Int.reduceLE, Int.reduceEq, reduceCtorEq, ↓reduceIte, i67, c67, w14, b16, b17, w21, b23]
    · replace h := br_t b17 h
      cases h
      simp -implicitDefEqProofs only [go_sem, Nat.reduceLT, Nat.reduceAdd, Nat.reduceSub, Nat.reduceMul, Nat.reduceEqDiff, Nat.reduceBEq, Nat.reduceLeDiff, Int.reduceToNat, Int.reduceLT, Int.reduceLE, Int.reduceEq, reduceCtorEq, ↓reduceIte, i67, c67, w14, b16, b17]
  · replace h := br_t b16 h
    cases h
    simp -implicitDefEqProofs only [go_sem, Nat.reduceLT, Nat.reduceAdd, Nat.reduceSub, Nat.reduceMul, Nat.reduceEqDiff, Nat.reduceBEq, Nat.reduceLeDiff, Int.reduceToNat, Int.reduceLT, Int.reduceLE, Int.reduceEq, reduceCtorEq, ↓reduceIte, i67, c67, w14, b16]
-- f49 impl.sizeAt
theorem call49 (args : List AV) (S : St) : evCall T (evFL T) 49 args S = lendC (evFL T 49) S (lendAll S [[2], [0]] args) := evCall0 fn49 rfl rfl rfl args S
theorem callz49 (args : List AV) (S : St) : evCallFz T (evFL T) 49 args S = lendZ (evFL T 49) S [[0]] (lendAll S [[2], [0]] args) := evCallFz0 fn49 rfl rfl rfl args S
attribute [go_sem] call49 callz49
noncomputable def X49_1 (a0 : (List ReCell)) (a1 : Int) (o : (Unit ⊕ Int)) : Ex × Fr × St :=
  match o with
  | .inl o => (.exit 0, frOf 33 (anyF), [])
  | .inr o => (.ret, frOf 33 (upd anyF 4 (.int .i64 o)), [])
noncomputable def E49_1 (a0 : (List ReCell)) (a1 : Int) (s : (Int × Int)) : Fr × St := (frOf 33 (upd (upd (upd (upd anyF 0 (.ts .imm 2 (a0.map encReCell))) 1 (.int .i64 a1)) 5 (.int .i64 s.1)) 6 (.int .i64 s.2)), [])
theorem b49_1 (a0 : (List ReCell)) (a1 : Int) (s : (Int × Int)) (o : Ctl (Int × Int) (Unit ⊕ Int)) (h : m49_1b a0 a1 s = some o) : evCL T 0 k49_1b (E49_1 a0 a1 s).1 (E49_1 a0 a1 s).2 = some (ctlX (E49_1 a0 a1) (X49_1 a0 a1) o) := by
  unfold m49_1b at h
  obtain ⟨s12, s13⟩ := s
  replace h := sel2_some h
  try simp -implicitDefEqProofs only [go_sem, Nat.reduceLT, Nat.reduceAdd, Nat.reduceSub, Nat.reduceMul, Nat.reduceEqDiff, Nat.reduceBEq, Nat.reduceLeDiff, Int.reduceToNat, Int.reduceLT, Int.reduceLE, Int.reduceEq, reduceCtorEq, ↓reduceIte, E49_1, X49_1, k49_1b]
  cases b14 : (ltI s13 (↑a0.length : Int) : Bool)
  · replace h := br_f b14 h
    cases h
    simp -implicitDefEqProofs only [go_sem, Nat.reduceLT, Nat.reduceAdd, Nat.reduceSub, Nat.reduceMul, Nat.reduceEqDiff, Nat.reduceBEq, Nat.reduceLeDiff, Int.reduceToNat, Int.reduceLT, Int.reduceLE, Int.reduceEq, reduceCtorEq, ↓reduceIte, E49_1, X49_1, k49_1b, b14]
  · replace h := br_t b14 h
    obtain ⟨x15, q16, h⟩ := bnd_some h
    obtain ⟨g17, g18, g19⟩ := idx_row encReCell q16
    try simp -implicitDefEqProofs only [go_sem, Nat.reduceLT, Nat.reduceAdd, Nat.reduceSub, Nat.reduceMul, Nat.reduceEqDiff, Nat.reduceBEq, Nat.reduceLeDiff, Int.reduceToNat, Int.reduceLT, Int.reduceLE, Int.reduceEq, reduceCtorEq, ↓reduceIte] at g18
    try simp -implicitDefEqProofs only [go_sem, Nat.reduceLT, Nat.reduceAdd, Nat.reduceSub, Nat.reduceMul, Nat.reduceEqDiff, Nat.reduceBEq, Nat.reduceLeDiff, Int.reduceToNat, Int.reduceLT, Int.reduceLE, Int.reduceEq, reduceCtorEq, ↓reduceIte] at g19
    obtain ⟨r22, q20, h⟩ := bnd_some h
    have w21 := e67 x15.kind r22 q20
    try simp -implicitDefEqProofs only [go_sem, Nat.reduceLT, Nat.reduceAdd, Nat.reduceSub, Nat.reduceMul, Nat.reduceEqDiff, Nat.reduceBEq, Nat.reduceLeDiff, Int.reduceToNat, Int.reduceLT, Int.reduceLE, Int.reduceEq, reduceCtorEq, ↓reduceIte] at w21
    try simp -implicitDefEqProofs only [go_sem, Nat.reduceLT, Nat.reduceAdd, Nat.reduceSub, Nat.reduceMul, Nat.reduceEqDiff, Nat.reduceBEq, Nat.reduceLeDiff, Int.reduceToNat, Int.reduceLT, Int.reduceLE, Int.reduceEq, reduceCtorEq, ↓reduceIte, E49_1, X49_1, k49_1b, b14, g17, g18, g19, w21]
    cases b23 : (ltI r22 0 : Bool)
    · replace h := br_f b23 h
      try simp -implicitDefEqProofs only [go_sem, Nat.reduceLT, Nat.reduceAdd, Nat.reduceSub, Nat.reduceMul, Nat.reduceEqDiff, Nat.reduceBEq, Nat.reduceLeDiff, Int.reduceToNat, Int.reduceLT, Int.reduceLE, Int.reduceEq, reduceCtorEq, ↓reduceIte, E49_1, X49_1, k49_1b, b14, g17, g18, g19, w21, b23]
      cases b24 : (eqI (wadd .i64 s12 (wsub .i64 r22 1)) 0 : Bool)
      · replace h := br_f b24 h
        cases h
        simp -implicitDefEqProofs only [go_sem, Nat.reduceLT, Nat.reduceAdd, Nat.reduceSub, Nat.reduceMul, Nat.reduceEqDiff, Nat.reduceBEq, Nat.reduceLeDiff, Int.reduceToNat, Int.reduceLT, Int.reduceLE, Int.reduceEq, reduceCtorEq, ↓reduceIte, E49_1, X49_1, k49_1b, b14, g17, g18, g19, w21, b23, b24]
      · replace h := br_t b24 h
        cases h
        simp -implicitDefEqProofs only [go_sem, Nat.reduceLT, Nat.reduceAdd, Nat.reduceSub, Nat.reduceMul, Nat.reduceEqDiff, Nat.reduceBEq, Nat.reduceLeDiff, Int.reduceToNat, Int.reduceLT, Int.reduceLE, Int.reduceEq, reduceCtorEq, ↓reduceIte, E49_1, X49_1, k49_1b, b14, g17, g18, g19, w21, b23, b24]
    · replace h := br_t b23 h
      cases h
      simp -implicitDefEqProofs only [go_sem, Nat.reduceLT, Nat.reduceAdd, Nat.reduceSub, Nat.reduceMul, Nat.reduceEqDiff, Nat.reduceBEq, Nat.reduceLeDiff, Int.reduceToNat, Int.reduceLT, Int.reduceLE, Int.reduceEq, reduceCtorEq, ↓reduceIte, E49_1, X49_1, k49_1b, b14, g17, g18, g19, w21, b23]
theorem e49_1 (a0 : (List ReCell)) (a1 : Int) (s : (Int × Int)) (o : (Unit ⊕ Int)) (h : loopP (m49_1b a0 a1) s = some o) : evCL T 0 (.loop k49_1b) (E49_1 a0 a1 s).1 (E49_1 a0 a1 s).2 = some (X49_1 a0 a1 o) :=
  loop_walk (E := E49_1 a0 a1) (X := X49_1 a0 a1) (by intro b; rcases b with b | b <;> (simp only [X49_1]; nofun)) (b49_1 a0 a1) s o h
theorem e49 (a0 : (List ReCell)) (a1 : Int) (r : Int) (h : m49 a0 a1 = some r) : evFL T 49 [.ts .imm 2 (a0.map encReCell), .int .i64 a1] [] = some (.int .i64 r, []) := by
  unfold m49 at h
  rw [evFL_at fn49 (Nat.le_of_ble_eq_true rfl) rfl (.inr rfl) ⟨rfl, rfl⟩]
  try simp -implicitDefEqProofs only [go_sem, Nat.reduceLT, Nat.reduceAdd, Nat.reduceSub, Nat.reduceMul, Nat.reduceEqDiff, Nat.reduceBEq, Nat.reduceLeDiff, Int.reduceToNat, Int.reduceLT, Int.reduceLE, Int.reduceEq, reduceCtorEq, ↓reduceIte, i49, c49]
  obtain ⟨o, q25, h⟩ := bnd_some h
  rcases o with ⟨⟩ | v27
  · replace h := selS_l h
    have w26 := e49_1 a0 a1 (1, a1) (.inl ()) q25
    simp only [E49_1, X49_1] at w26
    try simp -implicitDefEqProofs only [go_sem, Nat.reduceLT, Nat.reduceAdd, Nat.reduceSub, Nat.reduceMul, Nat.reduceEqDiff, Nat.reduceBEq, Nat.reduceLeDiff, Int.reduceToNat, Int.reduceLT, Int.reduceLE, Int.reduceEq, reduceCtorEq, ↓reduceIte] at w26
    cases h
    simp -implicitDefEqProofs only [go_sem, Nat.reduceLT, Nat.reduceAdd, Nat.reduceSub, Nat.reduceMul, Nat.reduceEqDiff, Nat.reduceBEq, Nat.reduceLeDiff, Int.reduceToNat, Int.reduceLT, Int.reduceLE, Int.reduceEq, reduceCtorEq, ↓reduceIte, i49, c49, w26]
  · replace h := selS_r h
    have w26 := e49_1 a0 a1 (1, a1) (.inr v27) q25
    simp only [E49_1, X49_1] at w26
    try simp -implicitDefEqProofs only [go_sem, Nat.reduceLT, Nat.reduceAdd, Nat.reduceSub, Nat.reduceMul, Nat.reduceEqDiff, Nat.reduceBEq, Nat.reduceLeDiff, Int.reduceToNat, Int.reduceLT, Int.reduceLE, Int.reduceEq, reduceCtorEq, ↓reduceIte] at w26
    cases h
    simp -implicitDefEqProofs only [go_sem, Nat.reduceLT, Nat.reduceAdd, Nat.reduceSub, Nat.reduceMul, Nat.reduceEqDiff, Nat.reduceBEq, Nat.reduceLeDiff, Int.reduceToNat, Int.reduceLT, Int.reduceLE, Int.reduceEq, reduceCtorEq, ↓reduceIte, i49, c49, w26]
end Go.Pi.Ytnogicfhdgpdjaa.MatchPath
