/- What functions of the program answer, and that the law answers true at every input; no condition -/
import Derived.Test.YthidbgihjhkjaaaThenPolicyTabThenPolicy
import Derived.Test.YthidbgihjhkjaaaThenPolicyModThenPolicy
set_option linter.all false
/- Functions of the program: that the code answers as the plain functions do. -/
namespace Go.Pi.Ythidbgihjhkjaaa.ThenPolicy
open Go Go.Proofs Go.Pi
set_option maxRecDepth 100000
set_option linter.all false
noncomputable def encInt (x : Int) : List AV := [.int .i64 x]
attribute [go_sem] encInt
theorem sq_encInt (q : Ql) (x : Int) : setQL q (encInt x) = encInt x := by simp [encInt]
theorem sqm_encInt (q : Ql) (xs : List Int) : setQLL q (xs.map encInt) = xs.map encInt := by rw [setQLL_map]; exact List.map_congr_left (fun x _ => sq_encInt q x)
theorem ow_encInt (x : Int) : ownOnlyL (encInt x) = true := by simp [encInt, ownOnlyL, ownOnly, ownLL_map]
theorem owm_encInt (xs : List Int) : ownOnlyLL (xs.map encInt) = true := ownLL_map _ ow_encInt xs
theorem fi_encInt (x : Int) : fine.fineL (encInt x) = true := by simp [encInt, fine.fineL, fine, fineLL_map]
theorem fim_encInt (xs : List Int) : fine.fineLL (xs.map encInt) = true := fineLL_map _ fi_encInt xs
theorem nu_encInt (x : Int) : nude.nudeL (encInt x) = true := by simp [encInt, nude.nudeL, nude, nudeLL_map]
theorem num_encInt (xs : List Int) : nude.nudeLL (xs.map encInt) = true := nudeLL_map _ nu_encInt xs
theorem st_encInt (q : Ql) (xs : List Int) : (xs.map encInt).map (fun x => x.map (setTop q)) = xs.map encInt := by rw [List.map_map]; rfl
attribute [go_sem] st_encInt
attribute [simp] sqm_encInt ow_encInt owm_encInt fi_encInt fim_encInt nu_encInt num_encInt
attribute [go_sem] sqm_encInt owm_encInt fim_encInt num_encInt
noncomputable def encPrefix (x : Prefix) : List AV := [.int .i64 x.addr, .int .i64 x.len]
attribute [go_sem] encPrefix
theorem sq_encPrefix (q : Ql) (x : Prefix) : setQL q (encPrefix x) = encPrefix x := by simp [encPrefix]
theorem sqm_encPrefix (q : Ql) (xs : List Prefix) : setQLL q (xs.map encPrefix) = xs.map encPrefix := by rw [setQLL_map]; exact List.map_congr_left (fun x _ => sq_encPrefix q x)
theorem ow_encPrefix (x : Prefix) : ownOnlyL (encPrefix x) = true := by simp [encPrefix, ownOnlyL, ownOnly, ownLL_map]
theorem owm_encPrefix (xs : List Prefix) : ownOnlyLL (xs.map encPrefix) = true := ownLL_map _ ow_encPrefix xs
theorem fi_encPrefix (x : Prefix) : fine.fineL (encPrefix x) = true := by simp [encPrefix, fine.fineL, fine, fineLL_map]
theorem fim_encPrefix (xs : List Prefix) : fine.fineLL (xs.map encPrefix) = true := fineLL_map _ fi_encPrefix xs
theorem nu_encPrefix (x : Prefix) : nude.nudeL (encPrefix x) = true := by simp [encPrefix, nude.nudeL, nude, nudeLL_map]
theorem num_encPrefix (xs : List Prefix) : nude.nudeLL (xs.map encPrefix) = true := nudeLL_map _ nu_encPrefix xs
theorem st_encPrefix (q : Ql) (xs : List Prefix) : (xs.map encPrefix).map (fun x => x.map (setTop q)) = xs.map encPrefix := by rw [List.map_map]; rfl
attribute [go_sem] st_encPrefix
attribute [simp] sqm_encPrefix ow_encPrefix owm_encPrefix fi_encPrefix fim_encPrefix nu_encPrefix num_encPrefix
attribute [go_sem] sqm_encPrefix owm_encPrefix fim_encPrefix num_encPrefix
noncomputable def encRange (x : Range) : List AV := [.int .i64 x.prefix_.addr, .int .i64 x.prefix_.len, .int .i64 x.lo, .int .i64 x.hi]
attribute [go_sem] encRange
theorem sq_encRange (q : Ql) (x : Range) : setQL q (encRange x) = encRange x := by simp [encRange]
theorem sqm_encRange (q : Ql) (xs : List Range) : setQLL q (xs.map encRange) = xs.map encRange := by rw [setQLL_map]; exact List.map_congr_left (fun x _ => sq_encRange q x)
theorem ow_encRange (x : Range) : ownOnlyL (encRange x) = true := by simp [encRange, ownOnlyL, ownOnly, ownLL_map]
theorem owm_encRange (xs : List Range) : ownOnlyLL (xs.map encRange) = true := ownLL_map _ ow_encRange xs
theorem fi_encRange (x : Range) : fine.fineL (encRange x) = true := by simp [encRange, fine.fineL, fine, fineLL_map]
theorem fim_encRange (xs : List Range) : fine.fineLL (xs.map encRange) = true := fineLL_map _ fi_encRange xs
theorem nu_encRange (x : Range) : nude.nudeL (encRange x) = true := by simp [encRange, nude.nudeL, nude, nudeLL_map]
theorem num_encRange (xs : List Range) : nude.nudeLL (xs.map encRange) = true := nudeLL_map _ nu_encRange xs
theorem st_encRange (q : Ql) (xs : List Range) : (xs.map encRange).map (fun x => x.map (setTop q)) = xs.map encRange := by rw [List.map_map]; rfl
attribute [go_sem] st_encRange
attribute [simp] sqm_encRange ow_encRange owm_encRange fi_encRange fim_encRange nu_encRange num_encRange
attribute [go_sem] sqm_encRange owm_encRange fim_encRange num_encRange
noncomputable def encLRange (q : Ql) (x : (List Range)) : List AV := [.ts q 4 (x.map encRange)]
attribute [go_sem] encLRange
theorem sq_encLRange (q q1 : Ql) (x : (List Range)) : setQL q (encLRange q1 x) = encLRange q x := by simp [encLRange, sq_encRange]
theorem sqm_encLRange (q q1 : Ql) (xs : List (List Range)) : setQLL q (xs.map (encLRange q1)) = xs.map (encLRange q) := by rw [setQLL_map]; exact List.map_congr_left (fun x _ => sq_encLRange q q1 x)
theorem ow_encLRange (x : (List Range)) : ownOnlyL (encLRange .own x) = true := by simp [encLRange, ownOnlyL, ownOnly, ownLL_map]
theorem owm_encLRange (xs : List (List Range)) : ownOnlyLL (xs.map (encLRange .own)) = true := ownLL_map _ ow_encLRange xs
theorem fi_encLRange (x : (List Range)) : fine.fineL (encLRange .own x) = true := by simp [encLRange, fine.fineL, fine, fineLL_map]
theorem fim_encLRange (xs : List (List Range)) : fine.fineLL (xs.map (encLRange .own)) = true := fineLL_map _ fi_encLRange xs
theorem nu_encLRange (x : (List Range)) : nude.nudeL (encLRange .own x) = true := by simp [encLRange, nude.nudeL, nude, nudeLL_map]
theorem num_encLRange (xs : List (List Range)) : nude.nudeLL (xs.map (encLRange .own)) = true := nudeLL_map _ nu_encLRange xs
theorem st_encLRange (q q1 : Ql) (xs : List (List Range)) : (xs.map (encLRange q1)).map (fun x => x.map (setTop q)) = xs.map (encLRange q) := by rw [List.map_map]; rfl
attribute [go_sem] st_encLRange
attribute [simp] sqm_encLRange ow_encLRange owm_encLRange fi_encLRange fim_encLRange nu_encLRange num_encLRange
attribute [go_sem] sqm_encLRange owm_encLRange fim_encLRange num_encLRange
noncomputable def encReCell (x : ReCell) : List AV := [.int .i64 x.kind, .int .i64 x.n]
attribute [go_sem] encReCell
theorem sq_encReCell (q : Ql) (x : ReCell) : setQL q (encReCell x) = encReCell x := by simp [encReCell]
theorem sqm_encReCell (q : Ql) (xs : List ReCell) : setQLL q (xs.map encReCell) = xs.map encReCell := by rw [setQLL_map]; exact List.map_congr_left (fun x _ => sq_encReCell q x)
theorem ow_encReCell (x : ReCell) : ownOnlyL (encReCell x) = true := by simp [encReCell, ownOnlyL, ownOnly, ownLL_map]
theorem owm_encReCell (xs : List ReCell) : ownOnlyLL (xs.map encReCell) = true := ownLL_map _ ow_encReCell xs
theorem fi_encReCell (x : ReCell) : fine.fineL (encReCell x) = true := by simp [encReCell, fine.fineL, fine, fineLL_map]
theorem fim_encReCell (xs : List ReCell) : fine.fineLL (xs.map encReCell) = true := fineLL_map _ fi_encReCell xs
theorem nu_encReCell (x : ReCell) : nude.nudeL (encReCell x) = true := by simp [encReCell, nude.nudeL, nude, nudeLL_map]
theorem num_encReCell (xs : List ReCell) : nude.nudeLL (xs.map encReCell) = true := nudeLL_map _ nu_encReCell xs
theorem st_encReCell (q : Ql) (xs : List ReCell) : (xs.map encReCell).map (fun x => x.map (setTop q)) = xs.map encReCell := by rw [List.map_map]; rfl
attribute [go_sem] st_encReCell
attribute [simp] sqm_encReCell ow_encReCell owm_encReCell fi_encReCell fim_encReCell nu_encReCell num_encReCell
attribute [go_sem] sqm_encReCell owm_encReCell fim_encReCell num_encReCell
noncomputable def encLReCell (q : Ql) (x : (List ReCell)) : List AV := [.ts q 2 (x.map encReCell)]
attribute [go_sem] encLReCell
theorem sq_encLReCell (q q1 : Ql) (x : (List ReCell)) : setQL q (encLReCell q1 x) = encLReCell q x := by simp [encLReCell, sq_encReCell]
theorem sqm_encLReCell (q q1 : Ql) (xs : List (List ReCell)) : setQLL q (xs.map (encLReCell q1)) = xs.map (encLReCell q) := by rw [setQLL_map]; exact List.map_congr_left (fun x _ => sq_encLReCell q q1 x)
theorem ow_encLReCell (x : (List ReCell)) : ownOnlyL (encLReCell .own x) = true := by simp [encLReCell, ownOnlyL, ownOnly, ownLL_map]
theorem owm_encLReCell (xs : List (List ReCell)) : ownOnlyLL (xs.map (encLReCell .own)) = true := ownLL_map _ ow_encLReCell xs
theorem fi_encLReCell (x : (List ReCell)) : fine.fineL (encLReCell .own x) = true := by simp [encLReCell, fine.fineL, fine, fineLL_map]
theorem fim_encLReCell (xs : List (List ReCell)) : fine.fineLL (xs.map (encLReCell .own)) = true := fineLL_map _ fi_encLReCell xs
theorem nu_encLReCell (x : (List ReCell)) : nude.nudeL (encLReCell .own x) = true := by simp [encLReCell, nude.nudeL, nude, nudeLL_map]
theorem num_encLReCell (xs : List (List ReCell)) : nude.nudeLL (xs.map (encLReCell .own)) = true := nudeLL_map _ nu_encLReCell xs
theorem st_encLReCell (q q1 : Ql) (xs : List (List ReCell)) : (xs.map (encLReCell q1)).map (fun x => x.map (setTop q)) = xs.map (encLReCell q) := by rw [List.map_map]; rfl
attribute [go_sem] st_encLReCell
attribute [simp] sqm_encLReCell ow_encLReCell owm_encLReCell fi_encLReCell fim_encLReCell nu_encLReCell num_encLReCell
attribute [go_sem] sqm_encLReCell owm_encLReCell fim_encLReCell num_encLReCell
noncomputable def encAcn (x : Acn) : List AV := [.int .i64 x.kind, .int .i64 x.n]
attribute [go_sem] encAcn
theorem sq_encAcn (q : Ql) (x : Acn) : setQL q (encAcn x) = encAcn x := by simp [encAcn]
theorem sqm_encAcn (q : Ql) (xs : List Acn) : setQLL q (xs.map encAcn) = xs.map encAcn := by rw [setQLL_map]; exact List.map_congr_left (fun x _ => sq_encAcn q x)
theorem ow_encAcn (x : Acn) : ownOnlyL (encAcn x) = true := by simp [encAcn, ownOnlyL, ownOnly, ownLL_map]
theorem owm_encAcn (xs : List Acn) : ownOnlyLL (xs.map encAcn) = true := ownLL_map _ ow_encAcn xs
theorem fi_encAcn (x : Acn) : fine.fineL (encAcn x) = true := by simp [encAcn, fine.fineL, fine, fineLL_map]
theorem fim_encAcn (xs : List Acn) : fine.fineLL (xs.map encAcn) = true := fineLL_map _ fi_encAcn xs
theorem nu_encAcn (x : Acn) : nude.nudeL (encAcn x) = true := by simp [encAcn, nude.nudeL, nude, nudeLL_map]
theorem num_encAcn (xs : List Acn) : nude.nudeLL (xs.map encAcn) = true := nudeLL_map _ nu_encAcn xs
theorem st_encAcn (q : Ql) (xs : List Acn) : (xs.map encAcn).map (fun x => x.map (setTop q)) = xs.map encAcn := by rw [List.map_map]; rfl
attribute [go_sem] st_encAcn
attribute [simp] sqm_encAcn ow_encAcn owm_encAcn fi_encAcn fim_encAcn nu_encAcn num_encAcn
attribute [go_sem] sqm_encAcn owm_encAcn fim_encAcn num_encAcn
noncomputable def encLAcn (q : Ql) (x : (List Acn)) : List AV := [.ts q 2 (x.map encAcn)]
attribute [go_sem] encLAcn
theorem sq_encLAcn (q q1 : Ql) (x : (List Acn)) : setQL q (encLAcn q1 x) = encLAcn q x := by simp [encLAcn, sq_encAcn]
theorem sqm_encLAcn (q q1 : Ql) (xs : List (List Acn)) : setQLL q (xs.map (encLAcn q1)) = xs.map (encLAcn q) := by rw [setQLL_map]; exact List.map_congr_left (fun x _ => sq_encLAcn q q1 x)
theorem ow_encLAcn (x : (List Acn)) : ownOnlyL (encLAcn .own x) = true := by simp [encLAcn, ownOnlyL, ownOnly, ownLL_map]
theorem owm_encLAcn (xs : List (List Acn)) : ownOnlyLL (xs.map (encLAcn .own)) = true := ownLL_map _ ow_encLAcn xs
theorem fi_encLAcn (x : (List Acn)) : fine.fineL (encLAcn .own x) = true := by simp [encLAcn, fine.fineL, fine, fineLL_map]
theorem fim_encLAcn (xs : List (List Acn)) : fine.fineLL (xs.map (encLAcn .own)) = true := fineLL_map _ fi_encLAcn xs
theorem nu_encLAcn (x : (List Acn)) : nude.nudeL (encLAcn .own x) = true := by simp [encLAcn, nude.nudeL, nude, nudeLL_map]
theorem num_encLAcn (xs : List (List Acn)) : nude.nudeLL (xs.map (encLAcn .own)) = true := nudeLL_map _ nu_encLAcn xs
theorem st_encLAcn (q q1 : Ql) (xs : List (List Acn)) : (xs.map (encLAcn q1)).map (fun x => x.map (setTop q)) = xs.map (encLAcn q) := by rw [List.map_map]; rfl
attribute [go_sem] st_encLAcn
attribute [simp] sqm_encLAcn ow_encLAcn owm_encLAcn fi_encLAcn fim_encLAcn nu_encLAcn num_encLAcn
attribute [go_sem] sqm_encLAcn owm_encLAcn fim_encLAcn num_encLAcn
noncomputable def encTerm (q : Ql) (x : Term) : List AV := [.ts q 4 (x.ranges.map encRange), .ts q 2 (x.path.map encReCell), .int .i64 x.comm, .ts q 2 (x.acts.map encAcn), .int .i64 x.verdict]
attribute [go_sem] encTerm
theorem sq_encTerm (q q1 : Ql) (x : Term) : setQL q (encTerm q1 x) = encTerm q x := by simp [encTerm, sq_encRange, sq_encReCell, sq_encAcn]
theorem sqm_encTerm (q q1 : Ql) (xs : List Term) : setQLL q (xs.map (encTerm q1)) = xs.map (encTerm q) := by rw [setQLL_map]; exact List.map_congr_left (fun x _ => sq_encTerm q q1 x)
theorem ow_encTerm (x : Term) : ownOnlyL (encTerm .own x) = true := by simp [encTerm, ownOnlyL, ownOnly, ownLL_map]
theorem owm_encTerm (xs : List Term) : ownOnlyLL (xs.map (encTerm .own)) = true := ownLL_map _ ow_encTerm xs
theorem fi_encTerm (x : Term) : fine.fineL (encTerm .own x) = true := by simp [encTerm, fine.fineL, fine, fineLL_map]
theorem fim_encTerm (xs : List Term) : fine.fineLL (xs.map (encTerm .own)) = true := fineLL_map _ fi_encTerm xs
theorem nu_encTerm (x : Term) : nude.nudeL (encTerm .own x) = true := by simp [encTerm, nude.nudeL, nude, nudeLL_map]
theorem num_encTerm (xs : List Term) : nude.nudeLL (xs.map (encTerm .own)) = true := nudeLL_map _ nu_encTerm xs
theorem st_encTerm (q q1 : Ql) (xs : List Term) : (xs.map (encTerm q1)).map (fun x => x.map (setTop q)) = xs.map (encTerm q) := by rw [List.map_map]; rfl
attribute [go_sem] st_encTerm
attribute [simp] sqm_encTerm ow_encTerm owm_encTerm fi_encTerm fim_encTerm nu_encTerm num_encTerm
attribute [go_sem] sqm_encTerm owm_encTerm fim_encTerm num_encTerm
noncomputable def encLTerm (q : Ql) (x : (List Term)) : List AV := [.ts q 5 (x.map (encTerm q))]
attribute [go_sem] encLTerm
theorem sq_encLTerm (q q1 : Ql) (x : (List Term)) : setQL q (encLTerm q1 x) = encLTerm q x := by simp [encLTerm, sq_encTerm]
theorem sqm_encLTerm (q q1 : Ql) (xs : List (List Term)) : setQLL q (xs.map (encLTerm q1)) = xs.map (encLTerm q) := by rw [setQLL_map]; exact List.map_congr_left (fun x _ => sq_encLTerm q q1 x)
theorem ow_encLTerm (x : (List Term)) : ownOnlyL (encLTerm .own x) = true := by simp [encLTerm, ownOnlyL, ownOnly, ownLL_map]
theorem owm_encLTerm (xs : List (List Term)) : ownOnlyLL (xs.map (encLTerm .own)) = true := ownLL_map _ ow_encLTerm xs
theorem fi_encLTerm (x : (List Term)) : fine.fineL (encLTerm .own x) = true := by simp [encLTerm, fine.fineL, fine, fineLL_map]
theorem fim_encLTerm (xs : List (List Term)) : fine.fineLL (xs.map (encLTerm .own)) = true := fineLL_map _ fi_encLTerm xs
theorem nu_encLTerm (x : (List Term)) : nude.nudeL (encLTerm .own x) = true := by simp [encLTerm, nude.nudeL, nude, nudeLL_map]
theorem num_encLTerm (xs : List (List Term)) : nude.nudeLL (xs.map (encLTerm .own)) = true := nudeLL_map _ nu_encLTerm xs
attribute [simp] sqm_encLTerm ow_encLTerm owm_encLTerm fi_encLTerm fim_encLTerm nu_encLTerm num_encLTerm
attribute [go_sem] sqm_encLTerm owm_encLTerm fim_encLTerm num_encLTerm
noncomputable def encBool (x : Bool) : List AV := [.bool x]
attribute [go_sem] encBool
theorem sq_encBool (q : Ql) (x : Bool) : setQL q (encBool x) = encBool x := by simp [encBool]
theorem sqm_encBool (q : Ql) (xs : List Bool) : setQLL q (xs.map encBool) = xs.map encBool := by rw [setQLL_map]; exact List.map_congr_left (fun x _ => sq_encBool q x)
theorem ow_encBool (x : Bool) : ownOnlyL (encBool x) = true := by simp [encBool, ownOnlyL, ownOnly, ownLL_map]
theorem owm_encBool (xs : List Bool) : ownOnlyLL (xs.map encBool) = true := ownLL_map _ ow_encBool xs
theorem fi_encBool (x : Bool) : fine.fineL (encBool x) = true := by simp [encBool, fine.fineL, fine, fineLL_map]
theorem fim_encBool (xs : List Bool) : fine.fineLL (xs.map encBool) = true := fineLL_map _ fi_encBool xs
theorem nu_encBool (x : Bool) : nude.nudeL (encBool x) = true := by simp [encBool, nude.nudeL, nude, nudeLL_map]
theorem num_encBool (xs : List Bool) : nude.nudeLL (xs.map encBool) = true := nudeLL_map _ nu_encBool xs
theorem st_encBool (q : Ql) (xs : List Bool) : (xs.map encBool).map (fun x => x.map (setTop q)) = xs.map encBool := by rw [List.map_map]; rfl
attribute [go_sem] st_encBool
attribute [simp] sqm_encBool ow_encBool owm_encBool fi_encBool fim_encBool nu_encBool num_encBool
attribute [go_sem] sqm_encBool owm_encBool fim_encBool num_encBool
noncomputable def encPolicy (q : Ql) (x : Policy) : List AV := [.ts q 5 (x.terms.map (encTerm q)), .bool x.accept]
attribute [go_sem] encPolicy
theorem sq_encPolicy (q q1 : Ql) (x : Policy) : setQL q (encPolicy q1 x) = encPolicy q x := by simp [encPolicy, sq_encTerm]
theorem sqm_encPolicy (q q1 : Ql) (xs : List Policy) : setQLL q (xs.map (encPolicy q1)) = xs.map (encPolicy q) := by rw [setQLL_map]; exact List.map_congr_left (fun x _ => sq_encPolicy q q1 x)
theorem ow_encPolicy (x : Policy) : ownOnlyL (encPolicy .own x) = true := by simp [encPolicy, ownOnlyL, ownOnly, ownLL_map]
theorem owm_encPolicy (xs : List Policy) : ownOnlyLL (xs.map (encPolicy .own)) = true := ownLL_map _ ow_encPolicy xs
theorem fi_encPolicy (x : Policy) : fine.fineL (encPolicy .own x) = true := by simp [encPolicy, fine.fineL, fine, fineLL_map]
theorem fim_encPolicy (xs : List Policy) : fine.fineLL (xs.map (encPolicy .own)) = true := fineLL_map _ fi_encPolicy xs
theorem nu_encPolicy (x : Policy) : nude.nudeL (encPolicy .own x) = true := by simp [encPolicy, nude.nudeL, nude, nudeLL_map]
theorem num_encPolicy (xs : List Policy) : nude.nudeLL (xs.map (encPolicy .own)) = true := nudeLL_map _ nu_encPolicy xs
attribute [simp] sqm_encPolicy ow_encPolicy owm_encPolicy fi_encPolicy fim_encPolicy nu_encPolicy num_encPolicy
attribute [go_sem] sqm_encPolicy owm_encPolicy fim_encPolicy num_encPolicy
noncomputable def encl6T (q : Ql) (x : l6T) : List AV := l6T.rec (motive_1 := fun _ => List AV) (motive_2 := fun _ => List (List AV)) (fun kind n kids h_kids => [AV.int .i64 kind, AV.int .i64 n, AV.ts q 3 h_kids]) [] (fun _ _ h1 h2 => h1 :: h2) x
theorem encml6T (q : Ql) (xs : List l6T) : l6T.rec_1 (motive_1 := fun _ => List AV) (motive_2 := fun _ => List (List AV)) (fun kind n kids h_kids => [AV.int .i64 kind, AV.int .i64 n, AV.ts q 3 h_kids]) [] (fun _ _ h1 h2 => h1 :: h2) xs = xs.map (encl6T q) := by
  induction xs with
  | nil => rfl
  | cons x r ih => rw [List.map_cons, ← ih]; rfl
theorem encel6T (q : Ql) (kind : Int) (n : Int) (kids : (List l6T)) : encl6T q (.mk kind n kids) = [AV.int .i64 kind, AV.int .i64 n, AV.ts q 3 (kids.map (encl6T q))] := by
  show [AV.int .i64 kind, AV.int .i64 n, AV.ts q 3 (l6T.rec_1 (motive_1 := fun _ => List AV) (motive_2 := fun _ => List (List AV)) (fun kind n kids h_kids => [AV.int .i64 kind, AV.int .i64 n, AV.ts q 3 h_kids]) [] (fun _ _ h1 h2 => h1 :: h2) kids)] = _
  rw [encml6T]
theorem encxl6T (q : Ql) (x : l6T) : encl6T q x = [AV.int .i64 x.kind, AV.int .i64 x.n, AV.ts q 3 (x.kids.map (encl6T q))] := by cases x; exact encel6T q _ _ _
theorem l6T.kind_mk (kind : Int) (n : Int) (kids : (List l6T)) : (l6T.mk kind n kids).kind = kind := rfl
theorem l6T.n_mk (kind : Int) (n : Int) (kids : (List l6T)) : (l6T.mk kind n kids).n = n := rfl
theorem l6T.kids_mk (kind : Int) (n : Int) (kids : (List l6T)) : (l6T.mk kind n kids).kids = kids := rfl
attribute [go_sem] encxl6T l6T.kind_mk l6T.n_mk l6T.kids_mk
theorem sq_encl6T' : ∀ x : l6T, ∀ q q1 : Ql, setQL q (encl6T q1 x) = encl6T q x := by
  intro x
  refine l6T.rec (motive_1 := fun x => ∀ q q1 : Ql, setQL q (encl6T q1 x) = encl6T q x) (motive_2 := fun x => ∀ q q1 : Ql, setQLL q (x.map (encl6T q1)) = x.map (encl6T q)) ?_ ?_ ?_ x
  · intro kind n kids h_kids; intro q q1; rw [encel6T, encel6T]; simp [h_kids]
  · intro q q1; rfl
  · intro x r h1 h2; intro q q1; rw [List.map_cons, List.map_cons, gll_cons, h1, h2]
theorem sq_encl6T (q q1 : Ql) (x : l6T) : setQL q (encl6T q1 x) = encl6T q x := sq_encl6T' x q q1
theorem sqm_encl6T (q q1 : Ql) (xs : List l6T) : setQLL q (xs.map (encl6T q1)) = xs.map (encl6T q) := by rw [setQLL_map]; exact List.map_congr_left (fun x _ => sq_encl6T q q1 x)
theorem ow_encl6T : ∀ x : l6T, ownOnlyL (encl6T .own x) = true := by
  intro x
  refine l6T.rec (motive_1 := fun x => ownOnlyL (encl6T .own x) = true) (motive_2 := fun x => ownOnlyLL (x.map (encl6T .own)) = true) ?_ ?_ ?_ x
  · intro kind n kids h_kids; rw [encel6T]; simp [ownOnlyL, ownOnly, h_kids]
  · rfl
  · intro x r h1 h2; rw [List.map_cons]; simp [ownOnlyLL, h1, h2]
theorem owm_encl6T (xs : List l6T) : ownOnlyLL (xs.map (encl6T .own)) = true := ownLL_map _ ow_encl6T xs
theorem fi_encl6T : ∀ x : l6T, fine.fineL (encl6T .own x) = true := by
  intro x
  refine l6T.rec (motive_1 := fun x => fine.fineL (encl6T .own x) = true) (motive_2 := fun x => fine.fineLL (x.map (encl6T .own)) = true) ?_ ?_ ?_ x
  · intro kind n kids h_kids; rw [encel6T]; simp [fine.fineL, fine, h_kids]
  · rfl
  · intro x r h1 h2; rw [List.map_cons]; simp [fine.fineLL, h1, h2]
theorem fim_encl6T (xs : List l6T) : fine.fineLL (xs.map (encl6T .own)) = true := fineLL_map _ fi_encl6T xs
theorem nu_encl6T : ∀ x : l6T, nude.nudeL (encl6T .own x) = true := by
  intro x
  refine l6T.rec (motive_1 := fun x => nude.nudeL (encl6T .own x) = true) (motive_2 := fun x => nude.nudeLL (x.map (encl6T .own)) = true) ?_ ?_ ?_ x
  · intro kind n kids h_kids; rw [encel6T]; simp [nude.nudeL, nude, h_kids]
  · rfl
  · intro x r h1 h2; rw [List.map_cons]; simp [nude.nudeLL, h1, h2]
theorem num_encl6T (xs : List l6T) : nude.nudeLL (xs.map (encl6T .own)) = true := nudeLL_map _ nu_encl6T xs
attribute [simp] sqm_encl6T ow_encl6T owm_encl6T fi_encl6T fim_encl6T nu_encl6T num_encl6T
attribute [go_sem] sqm_encl6T owm_encl6T fim_encl6T num_encl6T
noncomputable def encLl6T (q : Ql) (x : (List l6T)) : List AV := [.ts q 3 (x.map (encl6T q))]
attribute [go_sem] encLl6T
theorem sq_encLl6T (q q1 : Ql) (x : (List l6T)) : setQL q (encLl6T q1 x) = encLl6T q x := by simp [encLl6T, sq_encl6T]
theorem sqm_encLl6T (q q1 : Ql) (xs : List (List l6T)) : setQLL q (xs.map (encLl6T q1)) = xs.map (encLl6T q) := by rw [setQLL_map]; exact List.map_congr_left (fun x _ => sq_encLl6T q q1 x)
theorem ow_encLl6T (x : (List l6T)) : ownOnlyL (encLl6T .own x) = true := by simp [encLl6T, ownOnlyL, ownOnly, ownLL_map]
theorem owm_encLl6T (xs : List (List l6T)) : ownOnlyLL (xs.map (encLl6T .own)) = true := ownLL_map _ ow_encLl6T xs
theorem fi_encLl6T (x : (List l6T)) : fine.fineL (encLl6T .own x) = true := by simp [encLl6T, fine.fineL, fine, fineLL_map]
theorem fim_encLl6T (xs : List (List l6T)) : fine.fineLL (xs.map (encLl6T .own)) = true := fineLL_map _ fi_encLl6T xs
theorem nu_encLl6T (x : (List l6T)) : nude.nudeL (encLl6T .own x) = true := by simp [encLl6T, nude.nudeL, nude, nudeLL_map]
theorem num_encLl6T (xs : List (List l6T)) : nude.nudeLL (xs.map (encLl6T .own)) = true := nudeLL_map _ nu_encLl6T xs
attribute [simp] sqm_encLl6T ow_encLl6T owm_encLl6T fi_encLl6T fim_encLl6T nu_encLl6T num_encLl6T
attribute [go_sem] sqm_encLl6T owm_encLl6T fim_encLl6T num_encLl6T
-- f59 laws.szRangeS
theorem call59 (args : List AV) (S : St) : evCall T (evFL T) 59 args S = lendC (evFL T 59) S (lendAll S [[4], [0]] args) := evCall0 fn59 rfl rfl rfl args S
theorem callz59 (args : List AV) (S : St) : evCallFz T (evFL T) 59 args S = lendZ (evFL T 59) S [[0]] (lendAll S [[4], [0]] args) := evCallFz0 fn59 rfl rfl rfl args S
theorem calls59 (args : List AV) (S : St) : evCall (T.at true) (evFL T) 59 args S = lendC (evFL T 59) S (lendAll S [[4], [0]] args) := evCall0 fns59 rfl rfl rfl args S
theorem callsz59 (args : List AV) (S : St) : evCallFz (T.at true) (evFL T) 59 args S = lendZ (evFL T 59) S [[0]] (lendAll S [[4], [0]] args) := evCallFz0 fns59 rfl rfl rfl args S
attribute [go_sem] call59 callz59 calls59 callsz59
theorem e59 (a0 : (List Range)) (a1 : Int) (r : Int) (h : m59 a0 a1 = some r) : evFL T 59 [.ts .imm 4 (a0.map encRange), .int .i64 a1] [] = some (.int .i64 r, []) := by
  unfold m59 at h
  rw [evFL_at fn59 (Nat.le_of_ble_eq_true rfl) rfl (.inr rfl) ⟨rfl, rfl⟩]
  try simp -implicitDefEqProofs only [go_sem, Nat.reduceLT, Nat.reduceAdd, Nat.reduceMul, Nat.reduceEqDiff, Nat.reduceLeDiff, reduceCtorEq, ↓reduceIte, i59, c59]
  cases b1 : (ltI (wsub .i64 a1 (↑a0.length : Int)) 0 : Bool)
  · replace h := br_f b1 h
    cases h
    simp -implicitDefEqProofs only [go_sem, Nat.reduceLT, Nat.reduceAdd, Nat.reduceMul, Nat.reduceEqDiff, Nat.reduceLeDiff, reduceCtorEq, ↓reduceIte, i59, c59, b1]
  · replace h := br_t b1 h
    cases h
    simp -implicitDefEqProofs only [go_sem, Nat.reduceLT, Nat.reduceAdd, Nat.reduceMul, Nat.reduceEqDiff, Nat.reduceLeDiff, reduceCtorEq, ↓reduceIte, i59, c59, b1]
-- f60 laws.szReCellS
theorem call60 (args : List AV) (S : St) : evCall T (evFL T) 60 args S = lendC (evFL T 60) S (lendAll S [[2], [0]] args) := evCall0 fn60 rfl rfl rfl args S
theorem callz60 (args : List AV) (S : St) : evCallFz T (evFL T) 60 args S = lendZ (evFL T 60) S [[0]] (lendAll S [[2], [0]] args) := evCallFz0 fn60 rfl rfl rfl args S
theorem calls60 (args : List AV) (S : St) : evCall (T.at true) (evFL T) 60 args S = lendC (evFL T 60) S (lendAll S [[2], [0]] args) := evCall0 fns60 rfl rfl rfl args S
theorem callsz60 (args : List AV) (S : St) : evCallFz (T.at true) (evFL T) 60 args S = lendZ (evFL T 60) S [[0]] (lendAll S [[2], [0]] args) := evCallFz0 fns60 rfl rfl rfl args S
attribute [go_sem] call60 callz60 calls60 callsz60
theorem e60 (a0 : (List ReCell)) (a1 : Int) (r : Int) (h : m60 a0 a1 = some r) : evFL T 60 [.ts .imm 2 (a0.map encReCell), .int .i64 a1] [] = some (.int .i64 r, []) := by
  unfold m60 at h
  rw [evFL_at fn60 (Nat.le_of_ble_eq_true rfl) rfl (.inr rfl) ⟨rfl, rfl⟩]
  try simp -implicitDefEqProofs only [go_sem, Nat.reduceLT, Nat.reduceAdd, Nat.reduceMul, Nat.reduceEqDiff, Nat.reduceLeDiff, reduceCtorEq, ↓reduceIte, i60, c60]
  cases b1 : (ltI (wsub .i64 a1 (↑a0.length : Int)) 0 : Bool)
  · replace h := br_f b1 h
    cases h
    simp -implicitDefEqProofs only [go_sem, Nat.reduceLT, Nat.reduceAdd, Nat.reduceMul, Nat.reduceEqDiff, Nat.reduceLeDiff, reduceCtorEq, ↓reduceIte, i60, c60, b1]
  · replace h := br_t b1 h
    cases h
    simp -implicitDefEqProofs only [go_sem, Nat.reduceLT, Nat.reduceAdd, Nat.reduceMul, Nat.reduceEqDiff, Nat.reduceLeDiff, reduceCtorEq, ↓reduceIte, i60, c60, b1]
-- f61 laws.szActS
theorem call61 (args : List AV) (S : St) : evCall T (evFL T) 61 args S = lendC (evFL T 61) S (lendAll S [[2], [0]] args) := evCall0 fn61 rfl rfl rfl args S
theorem callz61 (args : List AV) (S : St) : evCallFz T (evFL T) 61 args S = lendZ (evFL T 61) S [[0]] (lendAll S [[2], [0]] args) := evCallFz0 fn61 rfl rfl rfl args S
theorem calls61 (args : List AV) (S : St) : evCall (T.at true) (evFL T) 61 args S = lendC (evFL T 61) S (lendAll S [[2], [0]] args) := evCall0 fns61 rfl rfl rfl args S
theorem callsz61 (args : List AV) (S : St) : evCallFz (T.at true) (evFL T) 61 args S = lendZ (evFL T 61) S [[0]] (lendAll S [[2], [0]] args) := evCallFz0 fns61 rfl rfl rfl args S
attribute [go_sem] call61 callz61 calls61 callsz61
theorem e61 (a0 : (List Acn)) (a1 : Int) (r : Int) (h : m61 a0 a1 = some r) : evFL T 61 [.ts .imm 2 (a0.map encAcn), .int .i64 a1] [] = some (.int .i64 r, []) := by
  unfold m61 at h
  rw [evFL_at fn61 (Nat.le_of_ble_eq_true rfl) rfl (.inr rfl) ⟨rfl, rfl⟩]
  try simp -implicitDefEqProofs only [go_sem, Nat.reduceLT, Nat.reduceAdd, Nat.reduceMul, Nat.reduceEqDiff, Nat.reduceLeDiff, reduceCtorEq, ↓reduceIte, i61, c61]
  cases b1 : (ltI (wsub .i64 a1 (↑a0.length : Int)) 0 : Bool)
  · replace h := br_f b1 h
    cases h
    simp -implicitDefEqProofs only [go_sem, Nat.reduceLT, Nat.reduceAdd, Nat.reduceMul, Nat.reduceEqDiff, Nat.reduceLeDiff, reduceCtorEq, ↓reduceIte, i61, c61, b1]
  · replace h := br_t b1 h
    cases h
    simp -implicitDefEqProofs only [go_sem, Nat.reduceLT, Nat.reduceAdd, Nat.reduceMul, Nat.reduceEqDiff, Nat.reduceLeDiff, reduceCtorEq, ↓reduceIte, i61, c61, b1]
-- f27 laws.szTerm
theorem call27 (args : List AV) (S : St) : evCall T (evFL T) 27 args S = lendC (evFL T 27) S (lendAll S [[4, 2, 0, 2, 0], [0]] args) := evCall0 fn27 rfl rfl rfl args S
theorem callz27 (args : List AV) (S : St) : evCallFz T (evFL T) 27 args S = lendZ (evFL T 27) S [[0]] (lendAll S [[4, 2, 0, 2, 0], [0]] args) := evCallFz0 fn27 rfl rfl rfl args S
theorem calls27 (args : List AV) (S : St) : evCall (T.at true) (evFL T) 27 args S = lendC (evFL T 27) S (lendAll S [[4, 2, 0, 2, 0], [0]] args) := evCall0 fns27 rfl rfl rfl args S
theorem callsz27 (args : List AV) (S : St) : evCallFz (T.at true) (evFL T) 27 args S = lendZ (evFL T 27) S [[0]] (lendAll S [[4, 2, 0, 2, 0], [0]] args) := evCallFz0 fns27 rfl rfl rfl args S
attribute [go_sem] call27 callz27 calls27 callsz27
theorem e27 (a0 : Term) (a1 : Int) (r : Int) (h : m27 a0 a1 = some r) : evFL T 27 [.agg [.ts .imm 4 (a0.ranges.map encRange), .ts .imm 2 (a0.path.map encReCell), .int .i64 a0.comm, .ts .imm 2 (a0.acts.map encAcn), .int .i64 a0.verdict], .int .i64 a1] [] = some (.int .i64 r, []) := by
  unfold m27 at h
  rw [evFL_at fn27 (Nat.le_of_ble_eq_true rfl) rfl (.inr rfl) ⟨rfl, rfl⟩]
  obtain ⟨r3, q1, h⟩ := bnd_some h
  have w2 := e59 a0.ranges a1 r3 q1
  try simp -implicitDefEqProofs only [go_sem] at w2
  try simp -implicitDefEqProofs only [go_sem, Nat.reduceLT, Nat.reduceAdd, Nat.reduceMul, Nat.reduceEqDiff, Nat.reduceLeDiff, reduceCtorEq, ↓reduceIte, i27, c27, w2]
  cases b4 : (ltI r3 0 : Bool)
  · replace h := br_f b4 h
    obtain ⟨r7, q5, h⟩ := bnd_some h
    have w6 := e60 a0.path r3 r7 q5
    try simp -implicitDefEqProofs only [go_sem] at w6
    try simp -implicitDefEqProofs only [go_sem, Nat.reduceLT, Nat.reduceAdd, Nat.reduceMul, Nat.reduceEqDiff, Nat.reduceLeDiff, reduceCtorEq, ↓reduceIte, i27, c27, w2, b4, w6]
    cases b8 : (ltI r7 0 : Bool)
    · replace h := br_f b8 h
      obtain ⟨r11, q9, h⟩ := bnd_some h
      have w10 := e61 a0.acts r7 r11 q9
      try simp -implicitDefEqProofs only [go_sem] at w10
      try simp -implicitDefEqProofs only [go_sem, Nat.reduceLT, Nat.reduceAdd, Nat.reduceMul, Nat.reduceEqDiff, Nat.reduceLeDiff, reduceCtorEq, ↓reduceIte, i27, c27, w2, b4, w6, b8, w10]
      cases b12 : (ltI r11 0 : Bool)
      · replace h := br_f b12 h
        cases h
        simp -implicitDefEqProofs only [go_sem, Nat.reduceLT, Nat.reduceAdd, Nat.reduceMul, Nat.reduceEqDiff, Nat.reduceLeDiff, reduceCtorEq, ↓reduceIte, i27, c27, w2, b4, w6, b8, w10, b12]
      · replace h := br_t b12 h
        cases h
        simp -implicitDefEqProofs only [go_sem, Nat.reduceLT, Nat.reduceAdd, Nat.reduceMul, Nat.reduceEqDiff, Nat.reduceLeDiff, reduceCtorEq, ↓reduceIte, i27, c27, w2, b4, w6, b8, w10, b12]
    · replace h := br_t b8 h
      cases h
      simp -implicitDefEqProofs only [go_sem, Nat.reduceLT, Nat.reduceAdd, Nat.reduceMul, Nat.reduceEqDiff, Nat.reduceLeDiff, reduceCtorEq, ↓reduceIte, i27, c27, w2, b4, w6, b8]
  · replace h := br_t b4 h
    cases h
    simp -implicitDefEqProofs only [go_sem, Nat.reduceLT, Nat.reduceAdd, Nat.reduceMul, Nat.reduceEqDiff, Nat.reduceLeDiff, reduceCtorEq, ↓reduceIte, i27, c27, w2, b4]
-- f41 laws.szTermS
theorem call41 (args : List AV) (S : St) : evCall T (evFL T) 41 args S = lendC (evFL T 41) S (lendAll S [[5], [0]] args) := evCall0 fn41 rfl rfl rfl args S
theorem callz41 (args : List AV) (S : St) : evCallFz T (evFL T) 41 args S = lendZ (evFL T 41) S [[0]] (lendAll S [[5], [0]] args) := evCallFz0 fn41 rfl rfl rfl args S
theorem calls41 (args : List AV) (S : St) : evCall (T.at true) (evFL T) 41 args S = lendC (evFL T 41) S (lendAll S [[5], [0]] args) := evCall0 fns41 rfl rfl rfl args S
theorem callsz41 (args : List AV) (S : St) : evCallFz (T.at true) (evFL T) 41 args S = lendZ (evFL T 41) S [[0]] (lendAll S [[5], [0]] args) := evCallFz0 fns41 rfl rfl rfl args S
attribute [go_sem] call41 callz41 calls41 callsz41
noncomputable def X41_1 (a0 : (List Term)) (o : (Int ⊕ Unit)) : Ex × Fr × St :=
  match o with
  | .inl o => (.exit 0, frOf 27 (upd anyF 1 (.int .i64 o)), [])
  | .inr o => (.ret, frOf 27 (upd anyF 4 (.int .i64 (-1))), [])
noncomputable def E41_1 (a0 : (List Term)) (s : (Int × Int)) : Fr × St := (frOf 27 (upd (upd (upd anyF 0 (.ts .imm 5 (a0.map (encTerm .imm)))) 1 (.int .i64 s.1)) 5 (.int .i64 s.2)), [])
theorem b41_1 (a0 : (List Term)) (s : (Int × Int)) (o : Ctl (Int × Int) (Int ⊕ Unit)) (h : m41_1b a0 s = some o) : evCL T 0 k41_1b (E41_1 a0 s).1 (E41_1 a0 s).2 = some (ctlX (E41_1 a0) (X41_1 a0) o) := by
  unfold m41_1b at h
  obtain ⟨s13, s14⟩ := s
  replace h := sel2_some h
  try simp -implicitDefEqProofs only [go_sem, Nat.reduceLT, Nat.reduceAdd, Nat.reduceMul, Nat.reduceEqDiff, Nat.reduceLeDiff, reduceCtorEq, ↓reduceIte, E41_1, X41_1, k41_1b]
  cases b15 : (ltI s14 (↑a0.length : Int) : Bool)
  · replace h := br_f b15 h
    cases h
    simp -implicitDefEqProofs only [go_sem, Nat.reduceLT, Nat.reduceAdd, Nat.reduceMul, Nat.reduceEqDiff, Nat.reduceLeDiff, reduceCtorEq, ↓reduceIte, E41_1, X41_1, k41_1b, b15]
  · replace h := br_t b15 h
    obtain ⟨x16, q17, h⟩ := bnd_some h
    obtain ⟨g18, g19, g20⟩ := idx_row (encTerm .imm) q17
    try simp -implicitDefEqProofs only [go_sem] at g19
    try simp -implicitDefEqProofs only [go_sem] at g20
    obtain ⟨r23, q21, h⟩ := bnd_some h
    have w22 := e27 x16 s13 r23 q21
    try simp -implicitDefEqProofs only [go_sem] at w22
    try simp -implicitDefEqProofs only [go_sem, Nat.reduceLT, Nat.reduceAdd, Nat.reduceMul, Nat.reduceEqDiff, Nat.reduceLeDiff, reduceCtorEq, ↓reduceIte, E41_1, X41_1, k41_1b, b15, g18, g19, g20, w22]
    cases b24 : (ltI r23 0 : Bool)
    · replace h := br_f b24 h
      cases h
      simp -implicitDefEqProofs only [go_sem, Nat.reduceLT, Nat.reduceAdd, Nat.reduceMul, Nat.reduceEqDiff, Nat.reduceLeDiff, reduceCtorEq, ↓reduceIte, E41_1, X41_1, k41_1b, b15, g18, g19, g20, w22, b24]
    · replace h := br_t b24 h
      cases h
      simp -implicitDefEqProofs only [go_sem, Nat.reduceLT, Nat.reduceAdd, Nat.reduceMul, Nat.reduceEqDiff, Nat.reduceLeDiff, reduceCtorEq, ↓reduceIte, E41_1, X41_1, k41_1b, b15, g18, g19, g20, w22, b24]
theorem e41_1 (a0 : (List Term)) (s : (Int × Int)) (o : (Int ⊕ Unit)) (h : loopP (m41_1b a0) s = some o) : evCL T 0 (.loop k41_1b) (E41_1 a0 s).1 (E41_1 a0 s).2 = some (X41_1 a0 o) :=
  loop_walk (E := E41_1 a0) (X := X41_1 a0) (by intro b; rcases b with b | b <;> (simp only [X41_1]; nofun)) (b41_1 a0) s o h
theorem e41 (a0 : (List Term)) (a1 : Int) (r : Int) (h : m41 a0 a1 = some r) : evFL T 41 [.ts .imm 5 (a0.map (encTerm .imm)), .int .i64 a1] [] = some (.int .i64 r, []) := by
  unfold m41 at h
  rw [evFL_at fn41 (Nat.le_of_ble_eq_true rfl) rfl (.inr rfl) ⟨rfl, rfl⟩]
  try simp -implicitDefEqProofs only [go_sem, Nat.reduceLT, Nat.reduceAdd, Nat.reduceMul, Nat.reduceEqDiff, Nat.reduceLeDiff, reduceCtorEq, ↓reduceIte, i41, c41]
  cases b1 : (ltI (wsub .i64 a1 (↑a0.length : Int)) 0 : Bool)
  · replace h := br_f b1 h
    try simp -implicitDefEqProofs only [go_sem, Nat.reduceLT, Nat.reduceAdd, Nat.reduceMul, Nat.reduceEqDiff, Nat.reduceLeDiff, reduceCtorEq, ↓reduceIte, i41, c41, b1]
    obtain ⟨o, q25, h⟩ := bnd_some h
    rcases o with v27 | ⟨⟩
    · replace h := selS_l h
      have w26 := e41_1 a0 (wsub .i64 a1 (↑a0.length : Int), 0) (.inl v27) q25
      simp only [E41_1, X41_1] at w26
      try simp -implicitDefEqProofs only [go_sem] at w26
      cases h
      simp -implicitDefEqProofs only [go_sem, Nat.reduceLT, Nat.reduceAdd, Nat.reduceMul, Nat.reduceEqDiff, Nat.reduceLeDiff, reduceCtorEq, ↓reduceIte, i41, c41, b1, w26]
    · replace h := selS_r h
      have w26 := e41_1 a0 (wsub .i64 a1 (↑a0.length : Int), 0) (.inr ()) q25
      simp only [E41_1, X41_1] at w26
      try simp -implicitDefEqProofs only [go_sem] at w26
      cases h
      simp -implicitDefEqProofs only [go_sem, Nat.reduceLT, Nat.reduceAdd, Nat.reduceMul, Nat.reduceEqDiff, Nat.reduceLeDiff, reduceCtorEq, ↓reduceIte, i41, c41, b1, w26]
  · replace h := br_t b1 h
    cases h
    simp -implicitDefEqProofs only [go_sem, Nat.reduceLT, Nat.reduceAdd, Nat.reduceMul, Nat.reduceEqDiff, Nat.reduceLeDiff, reduceCtorEq, ↓reduceIte, i41, c41, b1]
-- f13 laws.szPolicy
theorem call13 (args : List AV) (S : St) : evCall T (evFL T) 13 args S = lendC (evFL T 13) S (lendAll S [[5, 0], [0]] args) := evCall0 fn13 rfl rfl rfl args S
theorem callz13 (args : List AV) (S : St) : evCallFz T (evFL T) 13 args S = lendZ (evFL T 13) S [[0]] (lendAll S [[5, 0], [0]] args) := evCallFz0 fn13 rfl rfl rfl args S
theorem calls13 (args : List AV) (S : St) : evCall (T.at true) (evFL T) 13 args S = lendC (evFL T 13) S (lendAll S [[5, 0], [0]] args) := evCall0 fns13 rfl rfl rfl args S
theorem callsz13 (args : List AV) (S : St) : evCallFz (T.at true) (evFL T) 13 args S = lendZ (evFL T 13) S [[0]] (lendAll S [[5, 0], [0]] args) := evCallFz0 fns13 rfl rfl rfl args S
attribute [go_sem] call13 callz13 calls13 callsz13
theorem e13 (a0 : Policy) (a1 : Int) (r : Int) (h : m13 a0 a1 = some r) : evFL T 13 [.agg [.ts .imm 5 (a0.terms.map (encTerm .imm)), .bool a0.accept], .int .i64 a1] [] = some (.int .i64 r, []) := by
  unfold m13 at h
  rw [evFL_at fn13 (Nat.le_of_ble_eq_true rfl) rfl (.inr rfl) ⟨rfl, rfl⟩]
  obtain ⟨r3, q1, h⟩ := bnd_some h
  have w2 := e41 a0.terms a1 r3 q1
  try simp -implicitDefEqProofs only [go_sem] at w2
  try simp -implicitDefEqProofs only [go_sem, Nat.reduceLT, Nat.reduceAdd, Nat.reduceMul, Nat.reduceEqDiff, Nat.reduceLeDiff, reduceCtorEq, ↓reduceIte, i13, c13, w2]
  cases b4 : (ltI r3 0 : Bool)
  · replace h := br_f b4 h
    cases h
    simp -implicitDefEqProofs only [go_sem, Nat.reduceLT, Nat.reduceAdd, Nat.reduceMul, Nat.reduceEqDiff, Nat.reduceLeDiff, reduceCtorEq, ↓reduceIte, i13, c13, w2, b4]
  · replace h := br_t b4 h
    cases h
    simp -implicitDefEqProofs only [go_sem, Nat.reduceLT, Nat.reduceAdd, Nat.reduceMul, Nat.reduceEqDiff, Nat.reduceLeDiff, reduceCtorEq, ↓reduceIte, i13, c13, w2, b4]
-- f35 laws.toPrefix
theorem call35 (args : List AV) (S : St) : evCall T (evFL T) 35 args S = lendC (evFL T 35) S (lendAll S [[0, 0]] args) := evCall0 fn35 rfl rfl rfl args S
theorem callz35 (args : List AV) (S : St) : evCallFz T (evFL T) 35 args S = lendZ (evFL T 35) S [[0, 0]] (lendAll S [[0, 0]] args) := evCallFz0 fn35 rfl rfl rfl args S
theorem calls35 (args : List AV) (S : St) : evCall (T.at true) (evFL T) 35 args S = lendC (evFL T 35) S (lendAll S [[0, 0]] args) := evCall0 fns35 rfl rfl rfl args S
theorem callsz35 (args : List AV) (S : St) : evCallFz (T.at true) (evFL T) 35 args S = lendZ (evFL T 35) S [[0, 0]] (lendAll S [[0, 0]] args) := evCallFz0 fns35 rfl rfl rfl args S
attribute [go_sem] call35 callz35 calls35 callsz35
theorem e35 (a0 : Prefix) (r : Prefix) (h : m35 a0 = some r) : evFL T 35 [.agg [.int .i64 a0.addr, .int .i64 a0.len]] [] = some (.agg [.int .i64 r.addr, .int .i64 r.len], []) := by
  unfold m35 at h
  rw [evFL_at fn35 (Nat.le_of_ble_eq_true rfl) rfl (.inr rfl) ⟨rfl, rfl⟩]
  cases h
  simp -implicitDefEqProofs only [go_sem, Nat.reduceLT, Nat.reduceAdd, Nat.reduceMul, Nat.reduceEqDiff, Nat.reduceLeDiff, reduceCtorEq, ↓reduceIte, i35, c35]
-- f111 laws.toRange
theorem call111 (args : List AV) (S : St) : evCall T (evFL T) 111 args S = lendC (evFL T 111) S (lendAll S [[0, 0, 0, 0]] args) := evCall0 fn111 rfl rfl rfl args S
theorem callz111 (args : List AV) (S : St) : evCallFz T (evFL T) 111 args S = lendZ (evFL T 111) S [[0, 0, 0, 0]] (lendAll S [[0, 0, 0, 0]] args) := evCallFz0 fn111 rfl rfl rfl args S
theorem calls111 (args : List AV) (S : St) : evCall (T.at true) (evFL T) 111 args S = lendC (evFL T 111) S (lendAll S [[0, 0, 0, 0]] args) := evCall0 fns111 rfl rfl rfl args S
theorem callsz111 (args : List AV) (S : St) : evCallFz (T.at true) (evFL T) 111 args S = lendZ (evFL T 111) S [[0, 0, 0, 0]] (lendAll S [[0, 0, 0, 0]] args) := evCallFz0 fns111 rfl rfl rfl args S
attribute [go_sem] call111 callz111 calls111 callsz111
theorem e111 (a0 : Range) (r : Range) (h : m111 a0 = some r) : evFL T 111 [.agg [.int .i64 a0.prefix_.addr, .int .i64 a0.prefix_.len, .int .i64 a0.lo, .int .i64 a0.hi]] [] = some (.agg [.int .i64 r.prefix_.addr, .int .i64 r.prefix_.len, .int .i64 r.lo, .int .i64 r.hi], []) := by
  unfold m111 at h
  rw [evFL_at fn111 (Nat.le_of_ble_eq_true rfl) rfl (.inr rfl) ⟨rfl, rfl⟩]
  obtain ⟨r3, q1, h⟩ := bnd_some h
  have w2 := e35 a0.prefix_ r3 q1
  try simp -implicitDefEqProofs only [go_sem] at w2
  cases h
  simp -implicitDefEqProofs only [go_sem, Nat.reduceLT, Nat.reduceAdd, Nat.reduceMul, Nat.reduceEqDiff, Nat.reduceLeDiff, reduceCtorEq, ↓reduceIte, i111, c111, w2]
-- f63 laws.toRangeS
theorem call63 (args : List AV) (S : St) : evCall T (evFL T) 63 args S = lendC (evFL T 63) S (lendAll S [[4]] args) := evCall0 fn63 rfl rfl rfl args S
theorem callz63 (args : List AV) (S : St) : evCallFz T (evFL T) 63 args S = lendZ (evFL T 63) S [[4]] (lendAll S [[4]] args) := evCallFz0 fn63 rfl rfl rfl args S
theorem calls63 (args : List AV) (S : St) : evCall (T.at true) (evFL T) 63 args S = lendC (evFL T 63) S (lendAll S [[4]] args) := evCall0 fns63 rfl rfl rfl args S
theorem callsz63 (args : List AV) (S : St) : evCallFz (T.at true) (evFL T) 63 args S = lendZ (evFL T 63) S [[4]] (lendAll S [[4]] args) := evCallFz0 fns63 rfl rfl rfl args S
attribute [go_sem] call63 callz63 calls63 callsz63
noncomputable def X63_1 (a0 : (List Range)) (o : (List Range)) : Ex × Fr × St :=
  (.exit 0, frOf 23 (upd anyF 3 (.sl 0 0 o.length)), [some ⟨.arr, 4, o.map encRange⟩])
noncomputable def E63_1 (a0 : (List Range)) (s : (Int × List Range)) : Fr × St := (frOf 23 (upd (upd (upd anyF 0 (.ts .imm 4 (a0.map encRange))) 3 (.sl 0 0 s.2.length)) 4 (.int .i64 s.1)), [some ⟨.arr, 4, s.2.map encRange⟩])
theorem b63_1 (a0 : (List Range)) (s : (Int × List Range)) (o : Ctl (Int × List Range) (List Range)) (h : m63_1b a0 s = some o) : evCL T 0 k63_1b (E63_1 a0 s).1 (E63_1 a0 s).2 = some (ctlX (E63_1 a0) (X63_1 a0) o) := by
  unfold m63_1b at h
  obtain ⟨s17, s18⟩ := s
  replace h := sel2_some h
  try simp -implicitDefEqProofs only [go_sem, Nat.reduceLT, Nat.reduceAdd, Nat.reduceMul, Nat.reduceEqDiff, Nat.reduceLeDiff, reduceCtorEq, ↓reduceIte, E63_1, X63_1, k63_1b]
  cases b19 : (ltI s17 (↑a0.length : Int) : Bool)
  · replace h := br_f b19 h
    cases h
    simp -implicitDefEqProofs only [go_sem, Nat.reduceLT, Nat.reduceAdd, Nat.reduceMul, Nat.reduceEqDiff, Nat.reduceLeDiff, reduceCtorEq, ↓reduceIte, E63_1, X63_1, k63_1b, b19]
  · replace h := br_t b19 h
    obtain ⟨x20, q21, h⟩ := bnd_some h
    obtain ⟨g22, g23, g24⟩ := idx_row encRange q21
    try simp -implicitDefEqProofs only [go_sem] at g23
    try simp -implicitDefEqProofs only [go_sem] at g24
    obtain ⟨r27, q25, h⟩ := bnd_some h
    have w26 := e111 x20 r27 q25
    try simp -implicitDefEqProofs only [go_sem] at w26
    obtain ⟨x28, q29, h⟩ := bnd_some h
    obtain ⟨g30, g31, g32⟩ := idx_row encRange q29
    try simp -implicitDefEqProofs only [go_sem] at g31
    try simp -implicitDefEqProofs only [go_sem] at g32
    cases h
    simp -implicitDefEqProofs only [go_sem, Nat.reduceLT, Nat.reduceAdd, Nat.reduceMul, Nat.reduceEqDiff, Nat.reduceLeDiff, reduceCtorEq, ↓reduceIte, E63_1, X63_1, k63_1b, b19, g22, g23, g24, w26, g30, g31, g32]
theorem e63_1 (a0 : (List Range)) (s : (Int × List Range)) (o : (List Range)) (h : loopP (m63_1b a0) s = some o) : evCL T 0 (.loop k63_1b) (E63_1 a0 s).1 (E63_1 a0 s).2 = some (X63_1 a0 o) :=
  loop_walk (E := E63_1 a0) (X := X63_1 a0) (by intro b; (simp only [X63_1]; nofun)) (b63_1 a0) s o h
theorem e63 (a0 : (List Range)) (r : (List Range)) (h : m63 a0 = some r) : evFL T 63 [.ts .imm 4 (a0.map encRange)] [] = some (.sl 0 0 r.length, [some ⟨.arr, 4, r.map encRange⟩]) := by
  unfold m63 at h
  rw [evFL_at fn63 (Nat.le_of_ble_eq_true rfl) rfl (.inr rfl) ⟨rfl, rfl⟩]
  obtain ⟨g1, h⟩ := ck_some h
  try simp -implicitDefEqProofs only [go_sem] at g1
  obtain ⟨v35, q33, h⟩ := bnd_some h
  have w34 := e63_1 a0 (0, List.replicate a0.length (⟨(⟨0, 0⟩ : Prefix), 0, 0⟩ : Range)) v35 q33
  simp only [E63_1, X63_1] at w34
  try simp -implicitDefEqProofs only [go_sem] at w34
  cases h
  simp -implicitDefEqProofs only [go_sem, Nat.reduceLT, Nat.reduceAdd, Nat.reduceMul, Nat.reduceEqDiff, Nat.reduceLeDiff, reduceCtorEq, ↓reduceIte, i63, c63, g1, w34]
-- f112 laws.toReCell
theorem call112 (args : List AV) (S : St) : evCall T (evFL T) 112 args S = lendC (evFL T 112) S (lendAll S [[0, 0]] args) := evCall0 fn112 rfl rfl rfl args S
theorem callz112 (args : List AV) (S : St) : evCallFz T (evFL T) 112 args S = lendZ (evFL T 112) S [[0, 0]] (lendAll S [[0, 0]] args) := evCallFz0 fn112 rfl rfl rfl args S
theorem calls112 (args : List AV) (S : St) : evCall (T.at true) (evFL T) 112 args S = lendC (evFL T 112) S (lendAll S [[0, 0]] args) := evCall0 fns112 rfl rfl rfl args S
theorem callsz112 (args : List AV) (S : St) : evCallFz (T.at true) (evFL T) 112 args S = lendZ (evFL T 112) S [[0, 0]] (lendAll S [[0, 0]] args) := evCallFz0 fns112 rfl rfl rfl args S
attribute [go_sem] call112 callz112 calls112 callsz112
theorem e112 (a0 : ReCell) (r : ReCell) (h : m112 a0 = some r) : evFL T 112 [.agg [.int .i64 a0.kind, .int .i64 a0.n]] [] = some (.agg [.int .i64 r.kind, .int .i64 r.n], []) := by
  unfold m112 at h
  rw [evFL_at fn112 (Nat.le_of_ble_eq_true rfl) rfl (.inr rfl) ⟨rfl, rfl⟩]
  cases h
  simp -implicitDefEqProofs only [go_sem, Nat.reduceLT, Nat.reduceAdd, Nat.reduceMul, Nat.reduceEqDiff, Nat.reduceLeDiff, reduceCtorEq, ↓reduceIte, i112, c112]
-- f64 laws.toReCellS
theorem call64 (args : List AV) (S : St) : evCall T (evFL T) 64 args S = lendC (evFL T 64) S (lendAll S [[2]] args) := evCall0 fn64 rfl rfl rfl args S
theorem callz64 (args : List AV) (S : St) : evCallFz T (evFL T) 64 args S = lendZ (evFL T 64) S [[2]] (lendAll S [[2]] args) := evCallFz0 fn64 rfl rfl rfl args S
theorem calls64 (args : List AV) (S : St) : evCall (T.at true) (evFL T) 64 args S = lendC (evFL T 64) S (lendAll S [[2]] args) := evCall0 fns64 rfl rfl rfl args S
theorem callsz64 (args : List AV) (S : St) : evCallFz (T.at true) (evFL T) 64 args S = lendZ (evFL T 64) S [[2]] (lendAll S [[2]] args) := evCallFz0 fns64 rfl rfl rfl args S
attribute [go_sem] call64 callz64 calls64 callsz64
noncomputable def X64_1 (a0 : (List ReCell)) (o : (List ReCell)) : Ex × Fr × St :=
  (.exit 0, frOf 23 (upd anyF 3 (.sl 0 0 o.length)), [some ⟨.arr, 2, o.map encReCell⟩])
noncomputable def E64_1 (a0 : (List ReCell)) (s : (Int × List ReCell)) : Fr × St := (frOf 23 (upd (upd (upd anyF 0 (.ts .imm 2 (a0.map encReCell))) 3 (.sl 0 0 s.2.length)) 4 (.int .i64 s.1)), [some ⟨.arr, 2, s.2.map encReCell⟩])
theorem b64_1 (a0 : (List ReCell)) (s : (Int × List ReCell)) (o : Ctl (Int × List ReCell) (List ReCell)) (h : m64_1b a0 s = some o) : evCL T 0 k64_1b (E64_1 a0 s).1 (E64_1 a0 s).2 = some (ctlX (E64_1 a0) (X64_1 a0) o) := by
  unfold m64_1b at h
  obtain ⟨s17, s18⟩ := s
  replace h := sel2_some h
  try simp -implicitDefEqProofs only [go_sem, Nat.reduceLT, Nat.reduceAdd, Nat.reduceMul, Nat.reduceEqDiff, Nat.reduceLeDiff, reduceCtorEq, ↓reduceIte, E64_1, X64_1, k64_1b]
  cases b19 : (ltI s17 (↑a0.length : Int) : Bool)
  · replace h := br_f b19 h
    cases h
    simp -implicitDefEqProofs only [go_sem, Nat.reduceLT, Nat.reduceAdd, Nat.reduceMul, Nat.reduceEqDiff, Nat.reduceLeDiff, reduceCtorEq, ↓reduceIte, E64_1, X64_1, k64_1b, b19]
  · replace h := br_t b19 h
    obtain ⟨x20, q21, h⟩ := bnd_some h
    obtain ⟨g22, g23, g24⟩ := idx_row encReCell q21
    try simp -implicitDefEqProofs only [go_sem] at g23
    try simp -implicitDefEqProofs only [go_sem] at g24
    obtain ⟨r27, q25, h⟩ := bnd_some h
    have w26 := e112 x20 r27 q25
    try simp -implicitDefEqProofs only [go_sem] at w26
    obtain ⟨x28, q29, h⟩ := bnd_some h
    obtain ⟨g30, g31, g32⟩ := idx_row encReCell q29
    try simp -implicitDefEqProofs only [go_sem] at g31
    try simp -implicitDefEqProofs only [go_sem] at g32
    cases h
    simp -implicitDefEqProofs only [go_sem, Nat.reduceLT, Nat.reduceAdd, Nat.reduceMul, Nat.reduceEqDiff, Nat.reduceLeDiff, reduceCtorEq, ↓reduceIte, E64_1, X64_1, k64_1b, b19, g22, g23, g24, w26, g30, g31, g32]
theorem e64_1 (a0 : (List ReCell)) (s : (Int × List ReCell)) (o : (List ReCell)) (h : loopP (m64_1b a0) s = some o) : evCL T 0 (.loop k64_1b) (E64_1 a0 s).1 (E64_1 a0 s).2 = some (X64_1 a0 o) :=
  loop_walk (E := E64_1 a0) (X := X64_1 a0) (by intro b; (simp only [X64_1]; nofun)) (b64_1 a0) s o h
theorem e64 (a0 : (List ReCell)) (r : (List ReCell)) (h : m64 a0 = some r) : evFL T 64 [.ts .imm 2 (a0.map encReCell)] [] = some (.sl 0 0 r.length, [some ⟨.arr, 2, r.map encReCell⟩]) := by
  unfold m64 at h
  rw [evFL_at fn64 (Nat.le_of_ble_eq_true rfl) rfl (.inr rfl) ⟨rfl, rfl⟩]
  obtain ⟨g1, h⟩ := ck_some h
  try simp -implicitDefEqProofs only [go_sem] at g1
  obtain ⟨v35, q33, h⟩ := bnd_some h
  have w34 := e64_1 a0 (0, List.replicate a0.length (⟨0, 0⟩ : ReCell)) v35 q33
  simp only [E64_1, X64_1] at w34
  try simp -implicitDefEqProofs only [go_sem] at w34
  cases h
  simp -implicitDefEqProofs only [go_sem, Nat.reduceLT, Nat.reduceAdd, Nat.reduceMul, Nat.reduceEqDiff, Nat.reduceLeDiff, reduceCtorEq, ↓reduceIte, i64, c64, g1, w34]
-- f19 laws.toAct
theorem call19 (args : List AV) (S : St) : evCall T (evFL T) 19 args S = lendC (evFL T 19) S (lendAll S [[0, 0]] args) := evCall0 fn19 rfl rfl rfl args S
theorem callz19 (args : List AV) (S : St) : evCallFz T (evFL T) 19 args S = lendZ (evFL T 19) S [[0, 0]] (lendAll S [[0, 0]] args) := evCallFz0 fn19 rfl rfl rfl args S
theorem calls19 (args : List AV) (S : St) : evCall (T.at true) (evFL T) 19 args S = lendC (evFL T 19) S (lendAll S [[0, 0]] args) := evCall0 fns19 rfl rfl rfl args S
theorem callsz19 (args : List AV) (S : St) : evCallFz (T.at true) (evFL T) 19 args S = lendZ (evFL T 19) S [[0, 0]] (lendAll S [[0, 0]] args) := evCallFz0 fns19 rfl rfl rfl args S
attribute [go_sem] call19 callz19 calls19 callsz19
theorem e19 (a0 : Acn) (r : Acn) (h : m19 a0 = some r) : evFL T 19 [.agg [.int .i64 a0.kind, .int .i64 a0.n]] [] = some (.agg [.int .i64 r.kind, .int .i64 r.n], []) := by
  unfold m19 at h
  rw [evFL_at fn19 (Nat.le_of_ble_eq_true rfl) rfl (.inr rfl) ⟨rfl, rfl⟩]
  cases h
  simp -implicitDefEqProofs only [go_sem, Nat.reduceLT, Nat.reduceAdd, Nat.reduceMul, Nat.reduceEqDiff, Nat.reduceLeDiff, reduceCtorEq, ↓reduceIte, i19, c19]
-- f65 laws.toActS
theorem call65 (args : List AV) (S : St) : evCall T (evFL T) 65 args S = lendC (evFL T 65) S (lendAll S [[2]] args) := evCall0 fn65 rfl rfl rfl args S
theorem callz65 (args : List AV) (S : St) : evCallFz T (evFL T) 65 args S = lendZ (evFL T 65) S [[2]] (lendAll S [[2]] args) := evCallFz0 fn65 rfl rfl rfl args S
theorem calls65 (args : List AV) (S : St) : evCall (T.at true) (evFL T) 65 args S = lendC (evFL T 65) S (lendAll S [[2]] args) := evCall0 fns65 rfl rfl rfl args S
theorem callsz65 (args : List AV) (S : St) : evCallFz (T.at true) (evFL T) 65 args S = lendZ (evFL T 65) S [[2]] (lendAll S [[2]] args) := evCallFz0 fns65 rfl rfl rfl args S
attribute [go_sem] call65 callz65 calls65 callsz65
noncomputable def X65_1 (a0 : (List Acn)) (o : (List Acn)) : Ex × Fr × St :=
  (.exit 0, frOf 23 (upd anyF 3 (.sl 0 0 o.length)), [some ⟨.arr, 2, o.map encAcn⟩])
noncomputable def E65_1 (a0 : (List Acn)) (s : (Int × List Acn)) : Fr × St := (frOf 23 (upd (upd (upd anyF 0 (.ts .imm 2 (a0.map encAcn))) 3 (.sl 0 0 s.2.length)) 4 (.int .i64 s.1)), [some ⟨.arr, 2, s.2.map encAcn⟩])
theorem b65_1 (a0 : (List Acn)) (s : (Int × List Acn)) (o : Ctl (Int × List Acn) (List Acn)) (h : m65_1b a0 s = some o) : evCL T 0 k65_1b (E65_1 a0 s).1 (E65_1 a0 s).2 = some (ctlX (E65_1 a0) (X65_1 a0) o) := by
  unfold m65_1b at h
  obtain ⟨s17, s18⟩ := s
  replace h := sel2_some h
  try simp -implicitDefEqProofs only [go_sem, Nat.reduceLT, Nat.reduceAdd, Nat.reduceMul, Nat.reduceEqDiff, Nat.reduceLeDiff, reduceCtorEq, ↓reduceIte, E65_1, X65_1, k65_1b]
  cases b19 : (ltI s17 (↑a0.length : Int) : Bool)
  · replace h := br_f b19 h
    cases h
    simp -implicitDefEqProofs only [go_sem, Nat.reduceLT, Nat.reduceAdd, Nat.reduceMul, Nat.reduceEqDiff, Nat.reduceLeDiff, reduceCtorEq, ↓reduceIte, E65_1, X65_1, k65_1b, b19]
  · replace h := br_t b19 h
    obtain ⟨x20, q21, h⟩ := bnd_some h
    obtain ⟨g22, g23, g24⟩ := idx_row encAcn q21
    try simp -implicitDefEqProofs only [go_sem] at g23
    try simp -implicitDefEqProofs only [go_sem] at g24
    obtain ⟨r27, q25, h⟩ := bnd_some h
    have w26 := e19 x20 r27 q25
    try simp -implicitDefEqProofs only [go_sem] at w26
    obtain ⟨x28, q29, h⟩ := bnd_some h
    obtain ⟨g30, g31, g32⟩ := idx_row encAcn q29
    try simp -implicitDefEqProofs only [go_sem] at g31
    try simp -implicitDefEqProofs only [go_sem] at g32
    cases h
    simp -implicitDefEqProofs only [go_sem, Nat.reduceLT, Nat.reduceAdd, Nat.reduceMul, Nat.reduceEqDiff, Nat.reduceLeDiff, reduceCtorEq, ↓reduceIte, E65_1, X65_1, k65_1b, b19, g22, g23, g24, w26, g30, g31, g32]
theorem e65_1 (a0 : (List Acn)) (s : (Int × List Acn)) (o : (List Acn)) (h : loopP (m65_1b a0) s = some o) : evCL T 0 (.loop k65_1b) (E65_1 a0 s).1 (E65_1 a0 s).2 = some (X65_1 a0 o) :=
  loop_walk (E := E65_1 a0) (X := X65_1 a0) (by intro b; (simp only [X65_1]; nofun)) (b65_1 a0) s o h
theorem e65 (a0 : (List Acn)) (r : (List Acn)) (h : m65 a0 = some r) : evFL T 65 [.ts .imm 2 (a0.map encAcn)] [] = some (.sl 0 0 r.length, [some ⟨.arr, 2, r.map encAcn⟩]) := by
  unfold m65 at h
  rw [evFL_at fn65 (Nat.le_of_ble_eq_true rfl) rfl (.inr rfl) ⟨rfl, rfl⟩]
  obtain ⟨g1, h⟩ := ck_some h
  try simp -implicitDefEqProofs only [go_sem] at g1
  obtain ⟨v35, q33, h⟩ := bnd_some h
  have w34 := e65_1 a0 (0, List.replicate a0.length (⟨0, 0⟩ : Acn)) v35 q33
  simp only [E65_1, X65_1] at w34
  try simp -implicitDefEqProofs only [go_sem] at w34
  cases h
  simp -implicitDefEqProofs only [go_sem, Nat.reduceLT, Nat.reduceAdd, Nat.reduceMul, Nat.reduceEqDiff, Nat.reduceLeDiff, reduceCtorEq, ↓reduceIte, i65, c65, g1, w34]
-- f29 laws.toTerm
theorem call29 (args : List AV) (S : St) : evCall T (evFL T) 29 args S = lendC (evFL T 29) S (lendAll S [[4, 2, 0, 2, 0]] args) := evCall0 fn29 rfl rfl rfl args S
theorem callz29 (args : List AV) (S : St) : evCallFz T (evFL T) 29 args S = lendZ (evFL T 29) S [[4, 2, 0, 2, 0]] (lendAll S [[4, 2, 0, 2, 0]] args) := evCallFz0 fn29 rfl rfl rfl args S
theorem calls29 (args : List AV) (S : St) : evCall (T.at true) (evFL T) 29 args S = lendC (evFL T 29) S (lendAll S [[4, 2, 0, 2, 0]] args) := evCall0 fns29 rfl rfl rfl args S
theorem callsz29 (args : List AV) (S : St) : evCallFz (T.at true) (evFL T) 29 args S = lendZ (evFL T 29) S [[4, 2, 0, 2, 0]] (lendAll S [[4, 2, 0, 2, 0]] args) := evCallFz0 fns29 rfl rfl rfl args S
attribute [go_sem] call29 callz29 calls29 callsz29
theorem e29 (a0 : Term) (r : Term) (h : m29 a0 = some r) : evFL T 29 [.agg [.ts .imm 4 (a0.ranges.map encRange), .ts .imm 2 (a0.path.map encReCell), .int .i64 a0.comm, .ts .imm 2 (a0.acts.map encAcn), .int .i64 a0.verdict]] [] = some (.agg [.sl 0 0 r.ranges.length, .sl 1 0 r.path.length, .int .i64 r.comm, .sl 2 0 r.acts.length, .int .i64 r.verdict], [some ⟨.arr, 4, r.ranges.map encRange⟩, some ⟨.arr, 2, r.path.map encReCell⟩, some ⟨.arr, 2, r.acts.map encAcn⟩]) := by
  unfold m29 at h
  rw [evFL_at fn29 (Nat.le_of_ble_eq_true rfl) rfl (.inr rfl) ⟨rfl, rfl⟩]
  obtain ⟨r3, q1, h⟩ := bnd_some h
  have w2 := e63 a0.ranges r3 q1
  try simp -implicitDefEqProofs only [go_sem] at w2
  obtain ⟨r6, q4, h⟩ := bnd_some h
  have w5 := e64 a0.path r6 q4
  try simp -implicitDefEqProofs only [go_sem] at w5
  obtain ⟨r9, q7, h⟩ := bnd_some h
  have w8 := e65 a0.acts r9 q7
  try simp -implicitDefEqProofs only [go_sem] at w8
  cases h
  simp -implicitDefEqProofs only [go_sem, Nat.reduceLT, Nat.reduceAdd, Nat.reduceMul, Nat.reduceEqDiff, Nat.reduceLeDiff, reduceCtorEq, ↓reduceIte, i29, c29, w2, w5, w8]
-- f43 laws.toTermS
theorem call43 (args : List AV) (S : St) : evCall T (evFL T) 43 args S = lendC (evFL T 43) S (lendAll S [[5]] args) := evCall0 fn43 rfl rfl rfl args S
theorem callz43 (args : List AV) (S : St) : evCallFz T (evFL T) 43 args S = lendZ (evFL T 43) S [[5]] (lendAll S [[5]] args) := evCallFz0 fn43 rfl rfl rfl args S
theorem calls43 (args : List AV) (S : St) : evCall (T.at true) (evFL T) 43 args S = lendC (evFL T 43) S (lendAll S [[5]] args) := evCall0 fns43 rfl rfl rfl args S
theorem callsz43 (args : List AV) (S : St) : evCallFz (T.at true) (evFL T) 43 args S = lendZ (evFL T 43) S [[5]] (lendAll S [[5]] args) := evCallFz0 fns43 rfl rfl rfl args S
attribute [go_sem] call43 callz43 calls43 callsz43
noncomputable def X43_1 (a0 : (List Term)) (o : (List Term)) : Ex × Fr × St :=
  (.exit 0, frOf 23 (upd anyF 3 (.sl 0 0 o.length)), [some ⟨.arr, 5, o.map (encTerm .own)⟩])
noncomputable def E43_1 (a0 : (List Term)) (s : (Int × List Term)) : Fr × St := (frOf 23 (upd (upd (upd anyF 0 (.ts .imm 5 (a0.map (encTerm .imm)))) 3 (.sl 0 0 s.2.length)) 4 (.int .i64 s.1)), [some ⟨.arr, 5, s.2.map (encTerm .own)⟩])
theorem b43_1 (a0 : (List Term)) (s : (Int × List Term)) (o : Ctl (Int × List Term) (List Term)) (h : m43_1b a0 s = some o) : evCL T 0 k43_1b (E43_1 a0 s).1 (E43_1 a0 s).2 = some (ctlX (E43_1 a0) (X43_1 a0) o) := by
  unfold m43_1b at h
  obtain ⟨s17, s18⟩ := s
  replace h := sel2_some h
  try simp -implicitDefEqProofs only [go_sem, Nat.reduceLT, Nat.reduceAdd, Nat.reduceMul, Nat.reduceEqDiff, Nat.reduceLeDiff, reduceCtorEq, ↓reduceIte, E43_1, X43_1, k43_1b]
  cases b19 : (ltI s17 (↑a0.length : Int) : Bool)
  · replace h := br_f b19 h
    cases h
    simp -implicitDefEqProofs only [go_sem, Nat.reduceLT, Nat.reduceAdd, Nat.reduceMul, Nat.reduceEqDiff, Nat.reduceLeDiff, reduceCtorEq, ↓reduceIte, E43_1, X43_1, k43_1b, b19]
  · replace h := br_t b19 h
    obtain ⟨x20, q21, h⟩ := bnd_some h
    obtain ⟨g22, g23, g24⟩ := idx_row (encTerm .imm) q21
    try simp -implicitDefEqProofs only [go_sem] at g23
    try simp -implicitDefEqProofs only [go_sem] at g24
    obtain ⟨r27, q25, h⟩ := bnd_some h
    have w26 := e29 x20 r27 q25
    try simp -implicitDefEqProofs only [go_sem] at w26
    obtain ⟨x28, q29, h⟩ := bnd_some h
    obtain ⟨g30, g31, g32⟩ := idx_row (encTerm .own) q29
    try simp -implicitDefEqProofs only [go_sem] at g31
    try simp -implicitDefEqProofs only [go_sem] at g32
    cases h
    simp -implicitDefEqProofs only [go_sem, Nat.reduceLT, Nat.reduceAdd, Nat.reduceMul, Nat.reduceEqDiff, Nat.reduceLeDiff, reduceCtorEq, ↓reduceIte, E43_1, X43_1, k43_1b, b19, g22, g23, g24, w26, g30, g31, g32]
theorem e43_1 (a0 : (List Term)) (s : (Int × List Term)) (o : (List Term)) (h : loopP (m43_1b a0) s = some o) : evCL T 0 (.loop k43_1b) (E43_1 a0 s).1 (E43_1 a0 s).2 = some (X43_1 a0 o) :=
  loop_walk (E := E43_1 a0) (X := X43_1 a0) (by intro b; (simp only [X43_1]; nofun)) (b43_1 a0) s o h
theorem e43 (a0 : (List Term)) (r : (List Term)) (h : m43 a0 = some r) : evFL T 43 [.ts .imm 5 (a0.map (encTerm .imm))] [] = some (.sl 0 0 r.length, [some ⟨.arr, 5, r.map (encTerm .own)⟩]) := by
  unfold m43 at h
  rw [evFL_at fn43 (Nat.le_of_ble_eq_true rfl) rfl (.inr rfl) ⟨rfl, rfl⟩]
  obtain ⟨g1, h⟩ := ck_some h
  try simp -implicitDefEqProofs only [go_sem] at g1
  obtain ⟨v35, q33, h⟩ := bnd_some h
  have w34 := e43_1 a0 (0, List.replicate a0.length (⟨[], [], 0, [], 0⟩ : Term)) v35 q33
  simp only [E43_1, X43_1] at w34
  try simp -implicitDefEqProofs only [go_sem] at w34
  cases h
  simp -implicitDefEqProofs only [go_sem, Nat.reduceLT, Nat.reduceAdd, Nat.reduceMul, Nat.reduceEqDiff, Nat.reduceLeDiff, reduceCtorEq, ↓reduceIte, i43, c43, g1, w34]
-- f15 laws.toPolicy
theorem call15 (args : List AV) (S : St) : evCall T (evFL T) 15 args S = lendC (evFL T 15) S (lendAll S [[5, 0]] args) := evCall0 fn15 rfl rfl rfl args S
theorem callz15 (args : List AV) (S : St) : evCallFz T (evFL T) 15 args S = lendZ (evFL T 15) S [[5, 0]] (lendAll S [[5, 0]] args) := evCallFz0 fn15 rfl rfl rfl args S
theorem calls15 (args : List AV) (S : St) : evCall (T.at true) (evFL T) 15 args S = lendC (evFL T 15) S (lendAll S [[5, 0]] args) := evCall0 fns15 rfl rfl rfl args S
theorem callsz15 (args : List AV) (S : St) : evCallFz (T.at true) (evFL T) 15 args S = lendZ (evFL T 15) S [[5, 0]] (lendAll S [[5, 0]] args) := evCallFz0 fns15 rfl rfl rfl args S
attribute [go_sem] call15 callz15 calls15 callsz15
theorem e15 (a0 : Policy) (r : Policy) (h : m15 a0 = some r) : evFL T 15 [.agg [.ts .imm 5 (a0.terms.map (encTerm .imm)), .bool a0.accept]] [] = some (.agg [.sl 0 0 r.terms.length, .bool r.accept], [some ⟨.arr, 5, r.terms.map (encTerm .own)⟩]) := by
  unfold m15 at h
  rw [evFL_at fn15 (Nat.le_of_ble_eq_true rfl) rfl (.inr rfl) ⟨rfl, rfl⟩]
  obtain ⟨r3, q1, h⟩ := bnd_some h
  have w2 := e43 a0.terms r3 q1
  try simp -implicitDefEqProofs only [go_sem] at w2
  cases h
  simp -implicitDefEqProofs only [go_sem, Nat.reduceLT, Nat.reduceAdd, Nat.reduceMul, Nat.reduceEqDiff, Nat.reduceLeDiff, reduceCtorEq, ↓reduceIte, i15, c15, w2]
-- f71 spec.l1In
theorem call71 (args : List AV) (S : St) : evCall T (evFL T) 71 args S = lendC (evFL T 71) S (lendAll S [[0], [0], [0]] args) := evCall0 fn71 rfl rfl rfl args S
theorem callz71 (args : List AV) (S : St) : evCallFz T (evFL T) 71 args S = lendZ (evFL T 71) S [[0]] (lendAll S [[0], [0], [0]] args) := evCallFz0 fn71 rfl rfl rfl args S
theorem calls71 (args : List AV) (S : St) : evCall (T.at true) (evFL T) 71 args S = lendC (evFL T 71) S (lendAll S [[0], [0], [0]] args) := evCall0 fns71 rfl rfl rfl args S
theorem callsz71 (args : List AV) (S : St) : evCallFz (T.at true) (evFL T) 71 args S = lendZ (evFL T 71) S [[0]] (lendAll S [[0], [0], [0]] args) := evCallFz0 fns71 rfl rfl rfl args S
attribute [go_sem] call71 callz71 calls71 callsz71
noncomputable def X71_1 (a0 : Int) (a1 : Int) (a2 : Int) (o : Bool) : Ex × Fr × St :=
  (.normal, frOf 15 (upd anyF 6 (.bool o)), [])
theorem e71_1 (a0 : Int) (a1 : Int) (a2 : Int) (o : Bool) (h : m71_1 a0 a1 a2 = some o) : evCL T 0 k71_1 (frOf 15 (upd (upd (upd anyF 0 (.int .i64 a0)) 1 (.int .i64 a1)) 2 (.int .i64 a2))) [] = some (X71_1 a0 a1 a2 o) := by
  unfold m71_1 at h
  try simp -implicitDefEqProofs only [go_sem, Nat.reduceLT, Nat.reduceAdd, Nat.reduceMul, Nat.reduceEqDiff, Nat.reduceLeDiff, reduceCtorEq, ↓reduceIte, X71_1, k71_1]
  cases b1 : (leI a1 a0 : Bool)
  · replace h := br_f b1 h
    cases h
    simp -implicitDefEqProofs only [go_sem, Nat.reduceLT, Nat.reduceAdd, Nat.reduceMul, Nat.reduceEqDiff, Nat.reduceLeDiff, reduceCtorEq, ↓reduceIte, X71_1, k71_1, b1]
  · replace h := br_t b1 h
    cases h
    simp -implicitDefEqProofs only [go_sem, Nat.reduceLT, Nat.reduceAdd, Nat.reduceMul, Nat.reduceEqDiff, Nat.reduceLeDiff, reduceCtorEq, ↓reduceIte, X71_1, k71_1, b1]
theorem e71 (a0 : Int) (a1 : Int) (a2 : Int) (r : Bool) (h : m71 a0 a1 a2 = some r) : evFL T 71 [.int .i64 a0, .int .i64 a1, .int .i64 a2] [] = some (.bool r, []) := by
  unfold m71 at h
  rw [evFL_at fn71 (Nat.le_of_ble_eq_true rfl) rfl (.inr rfl) ⟨rfl, rfl⟩]
  obtain ⟨v4, q2, h⟩ := bnd_some h
  have w3 := e71_1 a0 a1 a2 v4 q2
  simp only [X71_1] at w3
  try simp -implicitDefEqProofs only [go_sem] at w3
  cases h
  simp -implicitDefEqProofs only [go_sem, Nat.reduceLT, Nat.reduceAdd, Nat.reduceMul, Nat.reduceEqDiff, Nat.reduceLeDiff, reduceCtorEq, ↓reduceIte, i71, c71, w3]
-- f72 spec.l1Addr
theorem call72 (args : List AV) (S : St) : evCall T (evFL T) 72 args S = lendC (evFL T 72) S (lendAll S [[0]] args) := evCall0 fn72 rfl rfl rfl args S
theorem callz72 (args : List AV) (S : St) : evCallFz T (evFL T) 72 args S = lendZ (evFL T 72) S [[0]] (lendAll S [[0]] args) := evCallFz0 fn72 rfl rfl rfl args S
theorem calls72 (args : List AV) (S : St) : evCall (T.at true) (evFL T) 72 args S = lendC (evFL T 72) S (lendAll S [[0]] args) := evCall0 fns72 rfl rfl rfl args S
theorem callsz72 (args : List AV) (S : St) : evCallFz (T.at true) (evFL T) 72 args S = lendZ (evFL T 72) S [[0]] (lendAll S [[0]] args) := evCallFz0 fns72 rfl rfl rfl args S
attribute [go_sem] call72 callz72 calls72 callsz72
theorem e72 (a0 : Int) (r : Bool) (h : m72 a0 = some r) : evFL T 72 [.int .i64 a0] [] = some (.bool r, []) := by
  unfold m72 at h
  rw [evFL_at fn72 (Nat.le_of_ble_eq_true rfl) rfl (.inr rfl) ⟨rfl, rfl⟩]
  obtain ⟨r3, q1, h⟩ := bnd_some h
  have w2 := e71 a0 0 4294967295 r3 q1
  try simp -implicitDefEqProofs only [go_sem] at w2
  cases h
  simp -implicitDefEqProofs only [go_sem, Nat.reduceLT, Nat.reduceAdd, Nat.reduceMul, Nat.reduceEqDiff, Nat.reduceLeDiff, reduceCtorEq, ↓reduceIte, i72, c72, w2]
-- f73 spec.l1Size
theorem call73 (args : List AV) (S : St) : evCall T (evFL T) 73 args S = lendC (evFL T 73) S (lendAll S [[0, 0]] args) := evCall0 fn73 rfl rfl rfl args S
theorem callz73 (args : List AV) (S : St) : evCallFz T (evFL T) 73 args S = lendZ (evFL T 73) S [[0]] (lendAll S [[0, 0]] args) := evCallFz0 fn73 rfl rfl rfl args S
theorem calls73 (args : List AV) (S : St) : evCall (T.at true) (evFL T) 73 args S = lendC (evFL T 73) S (lendAll S [[0, 0]] args) := evCall0 fns73 rfl rfl rfl args S
theorem callsz73 (args : List AV) (S : St) : evCallFz (T.at true) (evFL T) 73 args S = lendZ (evFL T 73) S [[0]] (lendAll S [[0, 0]] args) := evCallFz0 fns73 rfl rfl rfl args S
attribute [go_sem] call73 callz73 calls73 callsz73
theorem e73 (a0 : Prefix) (r : Int) (h : m73 a0 = some r) : evFL T 73 [.agg [.int .i64 a0.addr, .int .i64 a0.len]] [] = some (.int .i64 r, []) := by
  unfold m73 at h
  rw [evFL_at fn73 (Nat.le_of_ble_eq_true rfl) rfl (.inr rfl) ⟨rfl, rfl⟩]
  obtain ⟨g1, h⟩ := ck_some h
  try simp -implicitDefEqProofs only [go_sem] at g1
  cases h
  simp -implicitDefEqProofs only [go_sem, Nat.reduceLT, Nat.reduceAdd, Nat.reduceMul, Nat.reduceEqDiff, Nat.reduceLeDiff, reduceCtorEq, ↓reduceIte, i73, c73, g1]
-- f33 spec.GoodPrefix
theorem call33 (args : List AV) (S : St) : evCall T (evFL T) 33 args S = lendC (evFL T 33) S (lendAll S [[0, 0]] args) := evCall0 fn33 rfl rfl rfl args S
theorem callz33 (args : List AV) (S : St) : evCallFz T (evFL T) 33 args S = lendZ (evFL T 33) S [[0]] (lendAll S [[0, 0]] args) := evCallFz0 fn33 rfl rfl rfl args S
theorem calls33 (args : List AV) (S : St) : evCall (T.at true) (evFL T) 33 args S = lendC (evFL T 33) S (lendAll S [[0, 0]] args) := evCall0 fns33 rfl rfl rfl args S
theorem callsz33 (args : List AV) (S : St) : evCallFz (T.at true) (evFL T) 33 args S = lendZ (evFL T 33) S [[0]] (lendAll S [[0, 0]] args) := evCallFz0 fns33 rfl rfl rfl args S
attribute [go_sem] call33 callz33 calls33 callsz33
noncomputable def X33_1 (a0 : Prefix) (o : Bool) : Ex × Fr × St :=
  (.normal, frOf 19 (upd anyF 2 (.bool o)), [])
theorem e33_1 (a0 : Prefix) (o : Bool) (h : m33_1 a0 = some o) : evCL T 0 k33_1 (frOf 19 (upd anyF 1 (.ptr 0 0 0))) [some ⟨.box, 2, [[.int .i64 a0.addr, .int .i64 a0.len]]⟩] = some (X33_1 a0 o) := by
  unfold m33_1 at h
  obtain ⟨r3, q1, h⟩ := bnd_some h
  have w2 := e71 a0.len 0 32 r3 q1
  try simp -implicitDefEqProofs only [go_sem] at w2
  try simp -implicitDefEqProofs only [go_sem, Nat.reduceLT, Nat.reduceAdd, Nat.reduceMul, Nat.reduceEqDiff, Nat.reduceLeDiff, reduceCtorEq, ↓reduceIte, X33_1, k33_1, w2]
  cases b4 : (r3 : Bool)
  · replace h := br_f b4 h
    cases h
    simp -implicitDefEqProofs only [go_sem, Nat.reduceLT, Nat.reduceAdd, Nat.reduceMul, Nat.reduceEqDiff, Nat.reduceLeDiff, reduceCtorEq, ↓reduceIte, X33_1, k33_1, w2, b4]
  · replace h := br_t b4 h
    obtain ⟨r7, q5, h⟩ := bnd_some h
    have w6 := e72 a0.addr r7 q5
    try simp -implicitDefEqProofs only [go_sem] at w6
    try simp -implicitDefEqProofs only [go_sem, Nat.reduceLT, Nat.reduceAdd, Nat.reduceMul, Nat.reduceEqDiff, Nat.reduceLeDiff, reduceCtorEq, ↓reduceIte, X33_1, k33_1, w2, b4, w6]
    cases b8 : (r7 : Bool)
    · replace h := br_f b8 h
      cases h
      simp -implicitDefEqProofs only [go_sem, Nat.reduceLT, Nat.reduceAdd, Nat.reduceMul, Nat.reduceEqDiff, Nat.reduceLeDiff, reduceCtorEq, ↓reduceIte, X33_1, k33_1, w2, b4, w6, b8]
    · replace h := br_t b8 h
      obtain ⟨r11, q9, h⟩ := bnd_some h
      have w10 := e73 a0 r11 q9
      try simp -implicitDefEqProofs only [go_sem] at w10
      obtain ⟨g12, h⟩ := ck_some h
      try simp -implicitDefEqProofs only [go_sem] at g12
      cases h
      simp -implicitDefEqProofs only [go_sem, Nat.reduceLT, Nat.reduceAdd, Nat.reduceMul, Nat.reduceEqDiff, Nat.reduceLeDiff, reduceCtorEq, ↓reduceIte, X33_1, k33_1, w2, b4, w6, b8, w10, g12]
theorem e33 (a0 : Prefix) (r : Bool) (h : m33 a0 = some r) : evFL T 33 [.agg [.int .i64 a0.addr, .int .i64 a0.len]] [] = some (.bool r, []) := by
  unfold m33 at h
  rw [evFL_at fn33 (Nat.le_of_ble_eq_true rfl) rfl (.inr rfl) ⟨rfl, rfl⟩]
  obtain ⟨v15, q13, h⟩ := bnd_some h
  have w14 := e33_1 a0 v15 q13
  simp only [X33_1] at w14
  try simp -implicitDefEqProofs only [go_sem] at w14
  cases h
  simp -implicitDefEqProofs only [go_sem, Nat.reduceLT, Nat.reduceAdd, Nat.reduceMul, Nat.reduceEqDiff, Nat.reduceLeDiff, reduceCtorEq, ↓reduceIte, i33, c33, w14]
-- f48 spec.l7Act
theorem call48 (args : List AV) (S : St) : evCall T (evFL T) 48 args S = lendC (evFL T 48) S (lendAll S [[0, 0]] args) := evCall0 fn48 rfl rfl rfl args S
theorem callz48 (args : List AV) (S : St) : evCallFz T (evFL T) 48 args S = lendZ (evFL T 48) S [[0]] (lendAll S [[0, 0]] args) := evCallFz0 fn48 rfl rfl rfl args S
theorem calls48 (args : List AV) (S : St) : evCall (T.at true) (evFL T) 48 args S = lendC (evFL T 48) S (lendAll S [[0, 0]] args) := evCall0 fns48 rfl rfl rfl args S
theorem callsz48 (args : List AV) (S : St) : evCallFz (T.at true) (evFL T) 48 args S = lendZ (evFL T 48) S [[0]] (lendAll S [[0, 0]] args) := evCallFz0 fns48 rfl rfl rfl args S
attribute [go_sem] call48 callz48 calls48 callsz48
noncomputable def X48_3 (a0 : Acn) (p5 : Bool) (o : Bool) : Ex × Fr × St :=
  (.normal, frOf 21 (upd (upd anyF 1 (.ptr 0 0 0)) 5 (.bool o)), [some ⟨.box, 2, [[.int .i64 a0.kind, .int .i64 a0.n]]⟩])
theorem e48_3 (a0 : Acn) (p5 : Bool) (o : Bool) (h : m48_3 a0 p5 = some o) : evCL T 0 k48_3 (frOf 21 (upd (upd (upd anyF 1 (.ptr 0 0 0)) 4 (.int .i64 a0.kind)) 5 (.bool p5))) [some ⟨.box, 2, [[.int .i64 a0.kind, .int .i64 a0.n]]⟩] = some (X48_3 a0 p5 o) := by
  unfold m48_3 at h
  try simp -implicitDefEqProofs only [go_sem, Nat.reduceLT, Nat.reduceAdd, Nat.reduceMul, Nat.reduceEqDiff, Nat.reduceLeDiff, reduceCtorEq, ↓reduceIte, X48_3, k48_3]
  cases b6 : (p5 : Bool)
  · replace h := br_f b6 h
    cases h
    simp -implicitDefEqProofs only [go_sem, Nat.reduceLT, Nat.reduceAdd, Nat.reduceMul, Nat.reduceEqDiff, Nat.reduceLeDiff, reduceCtorEq, ↓reduceIte, X48_3, k48_3, b6]
  · replace h := br_t b6 h
    cases h
    simp -implicitDefEqProofs only [go_sem, Nat.reduceLT, Nat.reduceAdd, Nat.reduceMul, Nat.reduceEqDiff, Nat.reduceLeDiff, reduceCtorEq, ↓reduceIte, X48_3, k48_3, b6]
noncomputable def X48_2 (a0 : Acn) (p3 : Bool) (o : Bool) : Ex × Fr × St :=
  (.normal, frOf 21 (upd (upd anyF 1 (.ptr 0 0 0)) 5 (.bool o)), [some ⟨.box, 2, [[.int .i64 a0.kind, .int .i64 a0.n]]⟩])
theorem e48_2 (a0 : Acn) (p3 : Bool) (o : Bool) (h : m48_2 a0 p3 = some o) : evCL T 0 k48_2 (frOf 21 (upd (upd (upd anyF 1 (.ptr 0 0 0)) 4 (.int .i64 a0.kind)) 5 (.bool p3))) [some ⟨.box, 2, [[.int .i64 a0.kind, .int .i64 a0.n]]⟩] = some (X48_2 a0 p3 o) := by
  unfold m48_2 at h
  try simp -implicitDefEqProofs only [go_sem, Nat.reduceLT, Nat.reduceAdd, Nat.reduceMul, Nat.reduceEqDiff, Nat.reduceLeDiff, reduceCtorEq, ↓reduceIte, X48_2, k48_2]
  cases b4 : (p3 : Bool)
  · replace h := br_f b4 h
    obtain ⟨v9, q7, h⟩ := bnd_some h
    have w8 := e48_3 a0 (eqI a0.kind 3) v9 q7
    simp only [X48_3] at w8
    try simp -implicitDefEqProofs only [go_sem] at w8
    cases h
    simp -implicitDefEqProofs only [go_sem, Nat.reduceLT, Nat.reduceAdd, Nat.reduceMul, Nat.reduceEqDiff, Nat.reduceLeDiff, reduceCtorEq, ↓reduceIte, X48_2, k48_2, b4, w8]
  · replace h := br_t b4 h
    cases h
    simp -implicitDefEqProofs only [go_sem, Nat.reduceLT, Nat.reduceAdd, Nat.reduceMul, Nat.reduceEqDiff, Nat.reduceLeDiff, reduceCtorEq, ↓reduceIte, X48_2, k48_2, b4]
noncomputable def X48_1 (a0 : Acn) (p1 : Bool) (o : Bool) : Ex × Fr × St :=
  (.normal, frOf 21 (upd (upd anyF 1 (.ptr 0 0 0)) 5 (.bool o)), [some ⟨.box, 2, [[.int .i64 a0.kind, .int .i64 a0.n]]⟩])
theorem e48_1 (a0 : Acn) (p1 : Bool) (o : Bool) (h : m48_1 a0 p1 = some o) : evCL T 0 k48_1 (frOf 21 (upd (upd (upd anyF 1 (.ptr 0 0 0)) 4 (.int .i64 a0.kind)) 5 (.bool p1))) [some ⟨.box, 2, [[.int .i64 a0.kind, .int .i64 a0.n]]⟩] = some (X48_1 a0 p1 o) := by
  unfold m48_1 at h
  try simp -implicitDefEqProofs only [go_sem, Nat.reduceLT, Nat.reduceAdd, Nat.reduceMul, Nat.reduceEqDiff, Nat.reduceLeDiff, reduceCtorEq, ↓reduceIte, X48_1, k48_1]
  cases b2 : (p1 : Bool)
  · replace h := br_f b2 h
    obtain ⟨v12, q10, h⟩ := bnd_some h
    have w11 := e48_2 a0 (eqI a0.kind 2) v12 q10
    simp only [X48_2] at w11
    try simp -implicitDefEqProofs only [go_sem] at w11
    cases h
    simp -implicitDefEqProofs only [go_sem, Nat.reduceLT, Nat.reduceAdd, Nat.reduceMul, Nat.reduceEqDiff, Nat.reduceLeDiff, reduceCtorEq, ↓reduceIte, X48_1, k48_1, b2, w11]
  · replace h := br_t b2 h
    cases h
    simp -implicitDefEqProofs only [go_sem, Nat.reduceLT, Nat.reduceAdd, Nat.reduceMul, Nat.reduceEqDiff, Nat.reduceLeDiff, reduceCtorEq, ↓reduceIte, X48_1, k48_1, b2]
noncomputable def X48_4 (a0 : Acn) (o : Bool) : Ex × Fr × St :=
  (.normal, frOf 21 (upd anyF 2 (.bool o)), [])
theorem e48_4 (a0 : Acn) (o : Bool) (h : m48_4 a0 = some o) : evCL T 0 k48_4 (frOf 21 (upd anyF 1 (.ptr 0 0 0))) [some ⟨.box, 2, [[.int .i64 a0.kind, .int .i64 a0.n]]⟩] = some (X48_4 a0 o) := by
  unfold m48_4 at h
  try simp -implicitDefEqProofs only [go_sem, Nat.reduceLT, Nat.reduceAdd, Nat.reduceMul, Nat.reduceEqDiff, Nat.reduceLeDiff, reduceCtorEq, ↓reduceIte, X48_4, k48_4]
  cases b20 : (eqI a0.kind 5 : Bool)
  · replace h := br_f b20 h
    cases h
    simp -implicitDefEqProofs only [go_sem, Nat.reduceLT, Nat.reduceAdd, Nat.reduceMul, Nat.reduceEqDiff, Nat.reduceLeDiff, reduceCtorEq, ↓reduceIte, X48_4, k48_4, b20]
  · replace h := br_t b20 h
    obtain ⟨r23, q21, h⟩ := bnd_some h
    have w22 := e71 a0.n 1 65535 r23 q21
    try simp -implicitDefEqProofs only [go_sem] at w22
    cases h
    simp -implicitDefEqProofs only [go_sem, Nat.reduceLT, Nat.reduceAdd, Nat.reduceMul, Nat.reduceEqDiff, Nat.reduceLeDiff, reduceCtorEq, ↓reduceIte, X48_4, k48_4, b20, w22]
theorem e48 (a0 : Acn) (r : Bool) (h : m48 a0 = some r) : evFL T 48 [.agg [.int .i64 a0.kind, .int .i64 a0.n]] [] = some (.bool r, []) := by
  unfold m48 at h
  rw [evFL_at fn48 (Nat.le_of_ble_eq_true rfl) rfl (.inr rfl) ⟨rfl, rfl⟩]
  obtain ⟨v15, q13, h⟩ := bnd_some h
  have w14 := e48_1 a0 (eqI a0.kind 1) v15 q13
  simp only [X48_1] at w14
  try simp -implicitDefEqProofs only [go_sem] at w14
  try simp -implicitDefEqProofs only [go_sem, Nat.reduceLT, Nat.reduceAdd, Nat.reduceMul, Nat.reduceEqDiff, Nat.reduceLeDiff, reduceCtorEq, ↓reduceIte, i48, c48, w14]
  cases b16 : (v15 : Bool)
  · replace h := br_f b16 h
    obtain ⟨v26, q24, h⟩ := bnd_some h
    have w25 := e48_4 a0 v26 q24
    simp only [X48_4] at w25
    try simp -implicitDefEqProofs only [go_sem] at w25
    cases h
    simp -implicitDefEqProofs only [go_sem, Nat.reduceLT, Nat.reduceAdd, Nat.reduceMul, Nat.reduceEqDiff, Nat.reduceLeDiff, reduceCtorEq, ↓reduceIte, i48, c48, w14, b16, w25]
  · replace h := br_t b16 h
    obtain ⟨r19, q17, h⟩ := bnd_some h
    have w18 := e71 a0.n 0 1000000 r19 q17
    try simp -implicitDefEqProofs only [go_sem] at w18
    cases h
    simp -implicitDefEqProofs only [go_sem, Nat.reduceLT, Nat.reduceAdd, Nat.reduceMul, Nat.reduceEqDiff, Nat.reduceLeDiff, reduceCtorEq, ↓reduceIte, i48, c48, w14, b16, w18]
-- f154 spec.l6Arity
theorem call154 (args : List AV) (S : St) : evCall T (evFL T) 154 args S = lendC (evFL T 154) S (lendAll S [[0]] args) := evCall0 fn154 rfl rfl rfl args S
theorem callz154 (args : List AV) (S : St) : evCallFz T (evFL T) 154 args S = lendZ (evFL T 154) S [[0]] (lendAll S [[0]] args) := evCallFz0 fn154 rfl rfl rfl args S
theorem calls154 (args : List AV) (S : St) : evCall (T.at true) (evFL T) 154 args S = lendC (evFL T 154) S (lendAll S [[0]] args) := evCall0 fns154 rfl rfl rfl args S
theorem callsz154 (args : List AV) (S : St) : evCallFz (T.at true) (evFL T) 154 args S = lendZ (evFL T 154) S [[0]] (lendAll S [[0]] args) := evCallFz0 fns154 rfl rfl rfl args S
attribute [go_sem] call154 callz154 calls154 callsz154
noncomputable def X154_3 (a0 : Int) (p5 : Bool) (o : Bool) : Ex × Fr × St :=
  (.normal, frOf 14 (upd (upd anyF 3 (.int .i64 a0)) 4 (.bool o)), [])
theorem e154_3 (a0 : Int) (p5 : Bool) (o : Bool) (h : m154_3 a0 p5 = some o) : evCL T 0 k154_3 (frOf 14 (upd (upd anyF 3 (.int .i64 a0)) 4 (.bool p5))) [] = some (X154_3 a0 p5 o) := by
  unfold m154_3 at h
  try simp -implicitDefEqProofs only [go_sem, Nat.reduceLT, Nat.reduceAdd, Nat.reduceMul, Nat.reduceEqDiff, Nat.reduceLeDiff, reduceCtorEq, ↓reduceIte, X154_3, k154_3]
  cases b6 : (p5 : Bool)
  · replace h := br_f b6 h
    cases h
    simp -implicitDefEqProofs only [go_sem, Nat.reduceLT, Nat.reduceAdd, Nat.reduceMul, Nat.reduceEqDiff, Nat.reduceLeDiff, reduceCtorEq, ↓reduceIte, X154_3, k154_3, b6]
  · replace h := br_t b6 h
    cases h
    simp -implicitDefEqProofs only [go_sem, Nat.reduceLT, Nat.reduceAdd, Nat.reduceMul, Nat.reduceEqDiff, Nat.reduceLeDiff, reduceCtorEq, ↓reduceIte, X154_3, k154_3, b6]
noncomputable def X154_2 (a0 : Int) (p3 : Bool) (o : Bool) : Ex × Fr × St :=
  (.normal, frOf 14 (upd (upd anyF 3 (.int .i64 a0)) 4 (.bool o)), [])
theorem e154_2 (a0 : Int) (p3 : Bool) (o : Bool) (h : m154_2 a0 p3 = some o) : evCL T 0 k154_2 (frOf 14 (upd (upd anyF 3 (.int .i64 a0)) 4 (.bool p3))) [] = some (X154_2 a0 p3 o) := by
  unfold m154_2 at h
  try simp -implicitDefEqProofs only [go_sem, Nat.reduceLT, Nat.reduceAdd, Nat.reduceMul, Nat.reduceEqDiff, Nat.reduceLeDiff, reduceCtorEq, ↓reduceIte, X154_2, k154_2]
  cases b4 : (p3 : Bool)
  · replace h := br_f b4 h
    obtain ⟨v9, q7, h⟩ := bnd_some h
    have w8 := e154_3 a0 (eqI a0 3) v9 q7
    simp only [X154_3] at w8
    try simp -implicitDefEqProofs only [go_sem] at w8
    cases h
    simp -implicitDefEqProofs only [go_sem, Nat.reduceLT, Nat.reduceAdd, Nat.reduceMul, Nat.reduceEqDiff, Nat.reduceLeDiff, reduceCtorEq, ↓reduceIte, X154_2, k154_2, b4, w8]
  · replace h := br_t b4 h
    cases h
    simp -implicitDefEqProofs only [go_sem, Nat.reduceLT, Nat.reduceAdd, Nat.reduceMul, Nat.reduceEqDiff, Nat.reduceLeDiff, reduceCtorEq, ↓reduceIte, X154_2, k154_2, b4]
noncomputable def X154_1 (a0 : Int) (p1 : Bool) (o : Bool) : Ex × Fr × St :=
  (.normal, frOf 14 (upd (upd anyF 3 (.int .i64 a0)) 4 (.bool o)), [])
theorem e154_1 (a0 : Int) (p1 : Bool) (o : Bool) (h : m154_1 a0 p1 = some o) : evCL T 0 k154_1 (frOf 14 (upd (upd anyF 3 (.int .i64 a0)) 4 (.bool p1))) [] = some (X154_1 a0 p1 o) := by
  unfold m154_1 at h
  try simp -implicitDefEqProofs only [go_sem, Nat.reduceLT, Nat.reduceAdd, Nat.reduceMul, Nat.reduceEqDiff, Nat.reduceLeDiff, reduceCtorEq, ↓reduceIte, X154_1, k154_1]
  cases b2 : (p1 : Bool)
  · replace h := br_f b2 h
    obtain ⟨v12, q10, h⟩ := bnd_some h
    have w11 := e154_2 a0 (eqI a0 2) v12 q10
    simp only [X154_2] at w11
    try simp -implicitDefEqProofs only [go_sem] at w11
    cases h
    simp -implicitDefEqProofs only [go_sem, Nat.reduceLT, Nat.reduceAdd, Nat.reduceMul, Nat.reduceEqDiff, Nat.reduceLeDiff, reduceCtorEq, ↓reduceIte, X154_1, k154_1, b2, w11]
  · replace h := br_t b2 h
    cases h
    simp -implicitDefEqProofs only [go_sem, Nat.reduceLT, Nat.reduceAdd, Nat.reduceMul, Nat.reduceEqDiff, Nat.reduceLeDiff, reduceCtorEq, ↓reduceIte, X154_1, k154_1, b2]
noncomputable def X154_4 (a0 : Int) (p17 : Bool) (o : Bool) : Ex × Fr × St :=
  (.normal, frOf 14 (upd (upd anyF 3 (.int .i64 a0)) 9 (.bool o)), [])
theorem e154_4 (a0 : Int) (p17 : Bool) (o : Bool) (h : m154_4 a0 p17 = some o) : evCL T 0 k154_4 (frOf 14 (upd (upd anyF 3 (.int .i64 a0)) 9 (.bool p17))) [] = some (X154_4 a0 p17 o) := by
  unfold m154_4 at h
  try simp -implicitDefEqProofs only [go_sem, Nat.reduceLT, Nat.reduceAdd, Nat.reduceMul, Nat.reduceEqDiff, Nat.reduceLeDiff, reduceCtorEq, ↓reduceIte, X154_4, k154_4]
  cases b18 : (p17 : Bool)
  · replace h := br_f b18 h
    cases h
    simp -implicitDefEqProofs only [go_sem, Nat.reduceLT, Nat.reduceAdd, Nat.reduceMul, Nat.reduceEqDiff, Nat.reduceLeDiff, reduceCtorEq, ↓reduceIte, X154_4, k154_4, b18]
  · replace h := br_t b18 h
    cases h
    simp -implicitDefEqProofs only [go_sem, Nat.reduceLT, Nat.reduceAdd, Nat.reduceMul, Nat.reduceEqDiff, Nat.reduceLeDiff, reduceCtorEq, ↓reduceIte, X154_4, k154_4, b18]
theorem e154 (a0 : Int) (r : Int) (h : m154 a0 = some r) : evFL T 154 [.int .i64 a0] [] = some (.int .i64 r, []) := by
  unfold m154 at h
  rw [evFL_at fn154 (Nat.le_of_ble_eq_true rfl) rfl (.inr rfl) ⟨rfl, rfl⟩]
  obtain ⟨v15, q13, h⟩ := bnd_some h
  have w14 := e154_1 a0 (eqI a0 1) v15 q13
  simp only [X154_1] at w14
  try simp -implicitDefEqProofs only [go_sem] at w14
  try simp -implicitDefEqProofs only [go_sem, Nat.reduceLT, Nat.reduceAdd, Nat.reduceMul, Nat.reduceEqDiff, Nat.reduceLeDiff, reduceCtorEq, ↓reduceIte, i154, c154, w14]
  cases b16 : (v15 : Bool)
  · replace h := br_f b16 h
    obtain ⟨v21, q19, h⟩ := bnd_some h
    have w20 := e154_4 a0 (eqI a0 5) v21 q19
    simp only [X154_4] at w20
    try simp -implicitDefEqProofs only [go_sem] at w20
    try simp -implicitDefEqProofs only [go_sem, Nat.reduceLT, Nat.reduceAdd, Nat.reduceMul, Nat.reduceEqDiff, Nat.reduceLeDiff, reduceCtorEq, ↓reduceIte, i154, c154, w14, b16, w20]
    cases b22 : (v21 : Bool)
    · replace h := br_f b22 h
      try simp -implicitDefEqProofs only [go_sem, Nat.reduceLT, Nat.reduceAdd, Nat.reduceMul, Nat.reduceEqDiff, Nat.reduceLeDiff, reduceCtorEq, ↓reduceIte, i154, c154, w14, b16, w20, b22]
      cases b23 : (eqI a0 7 : Bool)
      · replace h := br_f b23 h
        cases h
        simp -implicitDefEqProofs only [go_sem, Nat.reduceLT, Nat.reduceAdd, Nat.reduceMul, Nat.reduceEqDiff, Nat.reduceLeDiff, reduceCtorEq, ↓reduceIte, i154, c154, w14, b16, w20, b22, b23]
      · replace h := br_t b23 h
        cases h
        simp -implicitDefEqProofs only [go_sem, Nat.reduceLT, Nat.reduceAdd, Nat.reduceMul, Nat.reduceEqDiff, Nat.reduceLeDiff, reduceCtorEq, ↓reduceIte, i154, c154, w14, b16, w20, b22, b23]
    · replace h := br_t b22 h
      cases h
      simp -implicitDefEqProofs only [go_sem, Nat.reduceLT, Nat.reduceAdd, Nat.reduceMul, Nat.reduceEqDiff, Nat.reduceLeDiff, reduceCtorEq, ↓reduceIte, i154, c154, w14, b16, w20, b22]
  · replace h := br_t b16 h
    cases h
    simp -implicitDefEqProofs only [go_sem, Nat.reduceLT, Nat.reduceAdd, Nat.reduceMul, Nat.reduceEqDiff, Nat.reduceLeDiff, reduceCtorEq, ↓reduceIte, i154, c154, w14, b16]
-- f143 spec.l6Read
theorem call143 (args : List AV) (S : St) : evCall T (evFL T) 143 args S = lendC (evFL T 143) S (lendAll S [[2], [0]] args) := evCall0 fn143 rfl rfl rfl args S
theorem callz143 (args : List AV) (S : St) : evCallFz T (evFL T) 143 args S = lendZ (evFL T 143) S [[0, 0, 3], [0]] (lendAll S [[2], [0]] args) := evCallFz0 fn143 rfl rfl rfl args S
theorem calls143 (args : List AV) (S : St) : evCall (T.at true) (evFL T) 143 args S = lendC (evFL T 143) S (lendAll S [[2], [0]] args) := evCall0 fns143 rfl rfl rfl args S
theorem callsz143 (args : List AV) (S : St) : evCallFz (T.at true) (evFL T) 143 args S = lendZ (evFL T 143) S [[0, 0, 3], [0]] (lendAll S [[2], [0]] args) := evCallFz0 fns143 rfl rfl rfl args S
attribute [go_sem] call143 callz143 calls143 callsz143
noncomputable def X143_1 (a0 : (List ReCell)) (a1 : Int) (r9 : Int) (x2 : ReCell) (o : Bool) : Ex × Fr × St :=
  (.normal, frOf 76 (upd (upd (upd (upd (upd (upd anyF 0 (.ts .imm 2 (a0.map encReCell))) 1 (.int .i64 a1)) 4 (.ptr 0 0 0)) 6 (.ptr 2 0 0)) 7 (.int .i64 r9)) 45 (.bool o)), [some ⟨.box, 3, [[.int .i64 0, .int .i64 0, .sl 1 0 0]]⟩, some ⟨.arr, 3, []⟩, some ⟨.box, 2, [[.int .i64 x2.kind, .int .i64 x2.n]]⟩])
theorem e143_1 (rc : (List ReCell) → Int → Option (l6T × Int)) (hrc : ∀ (a0 : (List ReCell)) (a1 : Int) (r : (l6T × Int)), rc a0 a1 = some r → evFL T 143 [.ts .imm 2 (a0.map encReCell), .int .i64 a1] [] = some (.tup [.agg [.int .i64 r.1.kind, .int .i64 r.1.n, .sl 0 0 r.1.kids.length], .int .i64 r.2], [some ⟨.arr, 3, r.1.kids.map (encl6T .own)⟩])) (a0 : (List ReCell)) (a1 : Int) (r9 : Int) (x2 : ReCell) (o : Bool) (h : m143_1 rc r9 x2 = some o) : evCL T 0 k143_1 (frOf 76 (upd (upd (upd (upd (upd anyF 0 (.ts .imm 2 (a0.map encReCell))) 1 (.int .i64 a1)) 4 (.ptr 0 0 0)) 6 (.ptr 2 0 0)) 7 (.int .i64 r9))) [some ⟨.box, 3, [[.int .i64 0, .int .i64 0, .sl 1 0 0]]⟩, some ⟨.arr, 3, []⟩, some ⟨.box, 2, [[.int .i64 x2.kind, .int .i64 x2.n]]⟩] = some (X143_1 a0 a1 r9 x2 o) := by
  unfold m143_1 at h
  try simp -implicitDefEqProofs only [go_sem, Nat.reduceLT, Nat.reduceAdd, Nat.reduceMul, Nat.reduceEqDiff, Nat.reduceLeDiff, reduceCtorEq, ↓reduceIte, X143_1, k143_1]
  cases b10 : (ltI r9 0 : Bool)
  · replace h := br_f b10 h
    try simp -implicitDefEqProofs only [go_sem, Nat.reduceLT, Nat.reduceAdd, Nat.reduceMul, Nat.reduceEqDiff, Nat.reduceLeDiff, reduceCtorEq, ↓reduceIte, X143_1, k143_1, b10]
    cases b11 : (eqI x2.kind 3 : Bool)
    · replace h := br_f b11 h
      cases h
      simp -implicitDefEqProofs only [go_sem, Nat.reduceLT, Nat.reduceAdd, Nat.reduceMul, Nat.reduceEqDiff, Nat.reduceLeDiff, reduceCtorEq, ↓reduceIte, X143_1, k143_1, b10, b11]
    · replace h := br_t b11 h
      obtain ⟨r14, q12, h⟩ := bnd_some h
      have w13 := e71 x2.n 1 65535 r14 q12
      try simp -implicitDefEqProofs only [go_sem] at w13
      try simp -implicitDefEqProofs only [go_sem, Nat.reduceLT, Nat.reduceAdd, Nat.reduceMul, Nat.reduceEqDiff, Nat.reduceLeDiff, reduceCtorEq, ↓reduceIte, X143_1, k143_1, b10, b11, w13]
      cases b15 : (r14 : Bool)
      · replace h := br_f b15 h
        cases h
        simp -implicitDefEqProofs only [go_sem, Nat.reduceLT, Nat.reduceAdd, Nat.reduceMul, Nat.reduceEqDiff, Nat.reduceLeDiff, reduceCtorEq, ↓reduceIte, X143_1, k143_1, b10, b11, w13, b15]
      · replace h := br_t b15 h
        cases h
        simp -implicitDefEqProofs only [go_sem, Nat.reduceLT, Nat.reduceAdd, Nat.reduceMul, Nat.reduceEqDiff, Nat.reduceLeDiff, reduceCtorEq, ↓reduceIte, X143_1, k143_1, b10, b11, w13, b15]
  · replace h := br_t b10 h
    cases h
    simp -implicitDefEqProofs only [go_sem, Nat.reduceLT, Nat.reduceAdd, Nat.reduceMul, Nat.reduceEqDiff, Nat.reduceLeDiff, reduceCtorEq, ↓reduceIte, X143_1, k143_1, b10]
noncomputable def X143_2 (a0 : (List ReCell)) (x2 : ReCell) (o : ((Int × List l6T) ⊕ Unit)) : Ex × Fr × St :=
  match o with
  | .inl o => (.exit 0, frOf 76 (upd (upd (upd anyF 1 (.int .i64 o.1)) 4 (.ptr 0 0 0)) 8 (.ptr 2 0 0)), [some ⟨.box, 3, [[.int .i64 0, .int .i64 0, .sl 1 0 0]]⟩, some ⟨.arr, 3, []⟩, some ⟨.box, 3, [[.int .i64 x2.kind, .int .i64 x2.n, .sl 3 0 o.2.length]]⟩, some ⟨.arr, 3, o.2.map (encl6T .own)⟩])
  | .inr o => (.ret, frOf 76 (upd (upd anyF 4 (.ptr 0 0 0)) 5 (.int .i64 0)), [some ⟨.box, 3, [[.int .i64 0, .int .i64 0, .sl 1 0 0]]⟩, some ⟨.arr, 3, []⟩])
noncomputable def E143_2 (a0 : (List ReCell)) (x2 : ReCell) (s : (Int × Int × List l6T)) : Fr × St := (frOf 76 (upd (upd (upd (upd (upd anyF 0 (.ts .imm 2 (a0.map encReCell))) 1 (.int .i64 s.1)) 4 (.ptr 0 0 0)) 7 (.int .i64 s.2.1)) 8 (.ptr 2 0 0)), [some ⟨.box, 3, [[.int .i64 0, .int .i64 0, .sl 1 0 0]]⟩, some ⟨.arr, 3, []⟩, some ⟨.box, 3, [[.int .i64 x2.kind, .int .i64 x2.n, .sl 3 0 s.2.2.length]]⟩, some ⟨.arr, 3, s.2.2.map (encl6T .own)⟩])
theorem b143_2 (rc : (List ReCell) → Int → Option (l6T × Int)) (hrc : ∀ (a0 : (List ReCell)) (a1 : Int) (r : (l6T × Int)), rc a0 a1 = some r → evFL T 143 [.ts .imm 2 (a0.map encReCell), .int .i64 a1] [] = some (.tup [.agg [.int .i64 r.1.kind, .int .i64 r.1.n, .sl 0 0 r.1.kids.length], .int .i64 r.2], [some ⟨.arr, 3, r.1.kids.map (encl6T .own)⟩])) (a0 : (List ReCell)) (x2 : ReCell) (s : (Int × Int × List l6T)) (o : Ctl (Int × Int × List l6T) ((Int × List l6T) ⊕ Unit)) (h : m143_2b rc a0 s = some o) : evCL T 0 k143_2b (E143_2 a0 x2 s).1 (E143_2 a0 x2 s).2 = some (ctlX (E143_2 a0 x2) (X143_2 a0 x2) o) := by
  unfold m143_2b at h
  obtain ⟨s27, s28, s29⟩ := s
  replace h := sel3_some h
  try simp -implicitDefEqProofs only [go_sem, Nat.reduceLT, Nat.reduceAdd, Nat.reduceMul, Nat.reduceEqDiff, Nat.reduceLeDiff, reduceCtorEq, ↓reduceIte, E143_2, X143_2, k143_2b]
  cases b30 : (ltI 0 s28 : Bool)
  · replace h := br_f b30 h
    cases h
    simp -implicitDefEqProofs only [go_sem, Nat.reduceLT, Nat.reduceAdd, Nat.reduceMul, Nat.reduceEqDiff, Nat.reduceLeDiff, reduceCtorEq, ↓reduceIte, E143_2, X143_2, k143_2b, b30]
  · replace h := br_t b30 h
    obtain ⟨⟨r33, r34⟩, q31, h⟩ := bnd_some h
    replace h := sel2_some h
    have w32 := hrc a0 s27 (r33, r34) q31
    try simp -implicitDefEqProofs only [go_sem] at w32
    try simp -implicitDefEqProofs only [go_sem, Nat.reduceLT, Nat.reduceAdd, Nat.reduceMul, Nat.reduceEqDiff, Nat.reduceLeDiff, reduceCtorEq, ↓reduceIte, E143_2, X143_2, k143_2b, b30, w32]
    cases b35 : (eqI r34 0 : Bool)
    · replace h := br_f b35 h
      obtain ⟨g36, h⟩ := ck_some h
      try simp -implicitDefEqProofs only [go_sem] at g36
      cases h
      simp -implicitDefEqProofs only [go_sem, Nat.reduceLT, Nat.reduceAdd, Nat.reduceMul, Nat.reduceEqDiff, Nat.reduceLeDiff, reduceCtorEq, ↓reduceIte, E143_2, X143_2, k143_2b, b30, w32, b35, g36]
    · replace h := br_t b35 h
      cases h
      simp -implicitDefEqProofs only [go_sem, Nat.reduceLT, Nat.reduceAdd, Nat.reduceMul, Nat.reduceEqDiff, Nat.reduceLeDiff, reduceCtorEq, ↓reduceIte, E143_2, X143_2, k143_2b, b30, w32, b35]
theorem e143_2 (rc : (List ReCell) → Int → Option (l6T × Int)) (hrc : ∀ (a0 : (List ReCell)) (a1 : Int) (r : (l6T × Int)), rc a0 a1 = some r → evFL T 143 [.ts .imm 2 (a0.map encReCell), .int .i64 a1] [] = some (.tup [.agg [.int .i64 r.1.kind, .int .i64 r.1.n, .sl 0 0 r.1.kids.length], .int .i64 r.2], [some ⟨.arr, 3, r.1.kids.map (encl6T .own)⟩])) (a0 : (List ReCell)) (x2 : ReCell) (s : (Int × Int × List l6T)) (o : ((Int × List l6T) ⊕ Unit)) (h : loopP (m143_2b rc a0) s = some o) : evCL T 0 (.loop k143_2b) (E143_2 a0 x2 s).1 (E143_2 a0 x2 s).2 = some (X143_2 a0 x2 o) :=
  loop_walk (E := E143_2 a0 x2) (X := X143_2 a0 x2) (by intro b; rcases b with b | b <;> (simp only [X143_2]; nofun)) (b143_2 rc hrc a0 x2) s o h
theorem e143r (rc : (List ReCell) → Int → Option (l6T × Int)) (hrc : ∀ (a0 : (List ReCell)) (a1 : Int) (r : (l6T × Int)), rc a0 a1 = some r → evFL T 143 [.ts .imm 2 (a0.map encReCell), .int .i64 a1] [] = some (.tup [.agg [.int .i64 r.1.kind, .int .i64 r.1.n, .sl 0 0 r.1.kids.length], .int .i64 r.2], [some ⟨.arr, 3, r.1.kids.map (encl6T .own)⟩])) (a0 : (List ReCell)) (a1 : Int) (r : (l6T × Int)) (h : m143r rc a0 a1 = some r) : evFL T 143 [.ts .imm 2 (a0.map encReCell), .int .i64 a1] [] = some (.tup [.agg [.int .i64 r.1.kind, .int .i64 r.1.n, .sl 0 0 r.1.kids.length], .int .i64 r.2], [some ⟨.arr, 3, r.1.kids.map (encl6T .own)⟩]) := by
  unfold m143r at h
  rw [evFL_at fn143 (Nat.le_of_ble_eq_true rfl) rfl (.inr rfl) ⟨rfl, rfl⟩]
  try simp -implicitDefEqProofs only [go_sem, Nat.reduceLT, Nat.reduceAdd, Nat.reduceMul, Nat.reduceEqDiff, Nat.reduceLeDiff, reduceCtorEq, ↓reduceIte, i143, c143]
  cases b1 : (leI (↑a0.length : Int) a1 : Bool)
  · replace h := br_f b1 h
    obtain ⟨x2, q3, h⟩ := bnd_some h
    obtain ⟨g4, g5, g6⟩ := idx_row encReCell q3
    try simp -implicitDefEqProofs only [go_sem] at g5
    try simp -implicitDefEqProofs only [go_sem] at g6
    obtain ⟨r9, q7, h⟩ := bnd_some h
    have w8 := e154 x2.kind r9 q7
    try simp -implicitDefEqProofs only [go_sem] at w8
    obtain ⟨v18, q16, h⟩ := bnd_some h
    have w17 := e143_1 rc hrc a0 a1 r9 x2 v18 q16
    simp only [X143_1] at w17
    try simp -implicitDefEqProofs only [go_sem] at w17
    try simp -implicitDefEqProofs only [go_sem, Nat.reduceLT, Nat.reduceAdd, Nat.reduceMul, Nat.reduceEqDiff, Nat.reduceLeDiff, reduceCtorEq, ↓reduceIte, i143, c143, b1, g4, g5, g6, w8, w17]
    cases b19 : (v18 : Bool)
    · replace h := br_f b19 h
      try simp -implicitDefEqProofs only [go_sem, Nat.reduceLT, Nat.reduceAdd, Nat.reduceMul, Nat.reduceEqDiff, Nat.reduceLeDiff, reduceCtorEq, ↓reduceIte, i143, c143, b1, g4, g5, g6, w8, w17, b19]
      obtain ⟨o, q37, h⟩ := bnd_some h
      rcases o with ⟨v39, v40⟩ | ⟨⟩
      · replace h := selS_l h
        replace h := sel2_some h
        have w38 := e143_2 rc hrc a0 x2 (wadd .i64 a1 1, r9, []) (.inl (v39, v40)) q37
        simp only [E143_2, X143_2] at w38
        try simp -implicitDefEqProofs only [go_sem] at w38
        cases h
        simp -implicitDefEqProofs only [go_sem, Nat.reduceLT, Nat.reduceAdd, Nat.reduceMul, Nat.reduceEqDiff, Nat.reduceLeDiff, reduceCtorEq, ↓reduceIte, i143, c143, b1, g4, g5, g6, w8, w17, b19, w38]
      · replace h := selS_r h
        have w38 := e143_2 rc hrc a0 x2 (wadd .i64 a1 1, r9, []) (.inr ()) q37
        simp only [E143_2, X143_2] at w38
        try simp -implicitDefEqProofs only [go_sem] at w38
        cases h
        simp -implicitDefEqProofs only [go_sem, Nat.reduceLT, Nat.reduceAdd, Nat.reduceMul, Nat.reduceEqDiff, Nat.reduceLeDiff, reduceCtorEq, ↓reduceIte, i143, c143, b1, g4, g5, g6, w8, w17, b19, w38]
    · replace h := br_t b19 h
      cases h
      simp -implicitDefEqProofs only [go_sem, Nat.reduceLT, Nat.reduceAdd, Nat.reduceMul, Nat.reduceEqDiff, Nat.reduceLeDiff, reduceCtorEq, ↓reduceIte, i143, c143, b1, g4, g5, g6, w8, w17, b19]
  · replace h := br_t b1 h
    cases h
    simp -implicitDefEqProofs only [go_sem, Nat.reduceLT, Nat.reduceAdd, Nat.reduceMul, Nat.reduceEqDiff, Nat.reduceLeDiff, reduceCtorEq, ↓reduceIte, i143, c143, b1]
theorem e143k : ∀ (k : Nat) (a0 : (List ReCell)) (a1 : Int) (r : (l6T × Int)) (h : m143k k a0 a1 = some r), evFL T 143 [.ts .imm 2 (a0.map encReCell), .int .i64 a1] [] = some (.tup [.agg [.int .i64 r.1.kind, .int .i64 r.1.n, .sl 0 0 r.1.kids.length], .int .i64 r.2], [some ⟨.arr, 3, r.1.kids.map (encl6T .own)⟩]) := by
  intro k
  induction k with
  | zero => intro a0 a1 r h; cases h
  | succ k ih => intro a0 a1 r h; exact e143r (m143k k) (fun a0 a1 r h => ih a0 a1 r h) a0 a1 r h
theorem e143 (a0 : (List ReCell)) (a1 : Int) (r : (l6T × Int)) (h : m143 a0 a1 = some r) : evFL T 143 [.ts .imm 2 (a0.map encReCell), .int .i64 a1] [] = some (.tup [.agg [.int .i64 r.1.kind, .int .i64 r.1.n, .sl 0 0 r.1.kids.length], .int .i64 r.2], [some ⟨.arr, 3, r.1.kids.map (encl6T .own)⟩]) := by
  obtain ⟨N, hN⟩ := limO_iff.1 h
  exact e143k N a0 a1 r (hN N (Nat.le_refl N))
-- f122 spec.l6Tree
theorem call122 (args : List AV) (S : St) : evCall T (evFL T) 122 args S = lendC (evFL T 122) S (lendAll S [[2]] args) := evCall0 fn122 rfl rfl rfl args S
theorem callz122 (args : List AV) (S : St) : evCallFz T (evFL T) 122 args S = lendZ (evFL T 122) S [[0, 0, 3], [0]] (lendAll S [[2]] args) := evCallFz0 fn122 rfl rfl rfl args S
theorem calls122 (args : List AV) (S : St) : evCall (T.at true) (evFL T) 122 args S = lendC (evFL T 122) S (lendAll S [[2]] args) := evCall0 fns122 rfl rfl rfl args S
theorem callsz122 (args : List AV) (S : St) : evCallFz (T.at true) (evFL T) 122 args S = lendZ (evFL T 122) S [[0, 0, 3], [0]] (lendAll S [[2]] args) := evCallFz0 fns122 rfl rfl rfl args S
attribute [go_sem] call122 callz122 calls122 callsz122
noncomputable def X122_1 (a0 : (List ReCell)) (r5 : Int) (r4 : l6T) (o : Bool) : Ex × Fr × St :=
  (.normal, frOf 24 (upd (upd anyF 2 (.ptr 0 0 0)) 3 (.bool o)), [some ⟨.box, 3, [[.int .i64 r4.kind, .int .i64 r4.n, .sl 1 0 r4.kids.length]]⟩, some ⟨.arr, 3, r4.kids.map (encl6T .own)⟩])
theorem e122_1 (a0 : (List ReCell)) (r5 : Int) (r4 : l6T) (o : Bool) (h : m122_1 a0 r5 = some o) : evCL T 0 k122_1 (frOf 24 (upd (upd (upd (upd anyF 0 (.ts .imm 2 (a0.map encReCell))) 2 (.ptr 0 0 0)) 4 (.ptr 2 0 0)) 5 (.int .i64 r5))) [some ⟨.box, 3, [[.int .i64 0, .int .i64 0, .sl 1 0 0]]⟩, some ⟨.arr, 3, []⟩, some ⟨.box, 3, [[.int .i64 r4.kind, .int .i64 r4.n, .sl 3 0 r4.kids.length]]⟩, some ⟨.arr, 3, r4.kids.map (encl6T .own)⟩] = some (X122_1 a0 r5 r4 o) := by
  unfold m122_1 at h
  try simp -implicitDefEqProofs only [go_sem, Nat.reduceLT, Nat.reduceAdd, Nat.reduceMul, Nat.reduceEqDiff, Nat.reduceLeDiff, reduceCtorEq, ↓reduceIte, X122_1, k122_1]
  cases b6 : (ltI 0 r5 : Bool)
  · replace h := br_f b6 h
    cases h
    simp -implicitDefEqProofs only [go_sem, Nat.reduceLT, Nat.reduceAdd, Nat.reduceMul, Nat.reduceEqDiff, Nat.reduceLeDiff, reduceCtorEq, ↓reduceIte, X122_1, k122_1, b6]
  · replace h := br_t b6 h
    cases h
    simp -implicitDefEqProofs only [go_sem, Nat.reduceLT, Nat.reduceAdd, Nat.reduceMul, Nat.reduceEqDiff, Nat.reduceLeDiff, reduceCtorEq, ↓reduceIte, X122_1, k122_1, b6]
theorem e122 (a0 : (List ReCell)) (r : (l6T × Bool)) (h : m122 a0 = some r) : evFL T 122 [.ts .imm 2 (a0.map encReCell)] [] = some (.tup [.agg [.int .i64 r.1.kind, .int .i64 r.1.n, .sl 0 0 r.1.kids.length], .bool r.2], [some ⟨.arr, 3, r.1.kids.map (encl6T .own)⟩]) := by
  unfold m122 at h
  rw [evFL_at fn122 (Nat.le_of_ble_eq_true rfl) rfl (.inr rfl) ⟨rfl, rfl⟩]
  try simp -implicitDefEqProofs only [go_sem, Nat.reduceLT, Nat.reduceAdd, Nat.reduceMul, Nat.reduceEqDiff, Nat.reduceLeDiff, reduceCtorEq, ↓reduceIte, i122, c122]
  cases b1 : (ltI 30 (↑a0.length : Int) : Bool)
  · replace h := br_f b1 h
    obtain ⟨⟨r4, r5⟩, q2, h⟩ := bnd_some h
    replace h := sel2_some h
    have w3 := e143 a0 0 (r4, r5) q2
    try simp -implicitDefEqProofs only [go_sem] at w3
    obtain ⟨v9, q7, h⟩ := bnd_some h
    have w8 := e122_1 a0 r5 r4 v9 q7
    simp only [X122_1] at w8
    try simp -implicitDefEqProofs only [go_sem] at w8
    cases h
    simp -implicitDefEqProofs only [go_sem, Nat.reduceLT, Nat.reduceAdd, Nat.reduceMul, Nat.reduceEqDiff, Nat.reduceLeDiff, reduceCtorEq, ↓reduceIte, i122, c122, b1, w3, w8]
  · replace h := br_t b1 h
    cases h
    simp -implicitDefEqProofs only [go_sem, Nat.reduceLT, Nat.reduceAdd, Nat.reduceMul, Nat.reduceEqDiff, Nat.reduceLeDiff, reduceCtorEq, ↓reduceIte, i122, c122, b1]
-- f82 spec.GoodRegex
theorem call82 (args : List AV) (S : St) : evCall T (evFL T) 82 args S = lendC (evFL T 82) S (lendAll S [[2]] args) := evCall0 fn82 rfl rfl rfl args S
theorem callz82 (args : List AV) (S : St) : evCallFz T (evFL T) 82 args S = lendZ (evFL T 82) S [[0]] (lendAll S [[2]] args) := evCallFz0 fn82 rfl rfl rfl args S
theorem calls82 (args : List AV) (S : St) : evCall (T.at true) (evFL T) 82 args S = lendC (evFL T 82) S (lendAll S [[2]] args) := evCall0 fns82 rfl rfl rfl args S
theorem callsz82 (args : List AV) (S : St) : evCallFz (T.at true) (evFL T) 82 args S = lendZ (evFL T 82) S [[0]] (lendAll S [[2]] args) := evCallFz0 fns82 rfl rfl rfl args S
attribute [go_sem] call82 callz82 calls82 callsz82
theorem e82 (a0 : (List ReCell)) (r : Bool) (h : m82 a0 = some r) : evFL T 82 [.ts .imm 2 (a0.map encReCell)] [] = some (.bool r, []) := by
  unfold m82 at h
  rw [evFL_at fn82 (Nat.le_of_ble_eq_true rfl) rfl (.inr rfl) ⟨rfl, rfl⟩]
  obtain ⟨⟨r3, r4⟩, q1, h⟩ := bnd_some h
  replace h := sel2_some h
  have w2 := e122 a0 (r3, r4) q1
  try simp -implicitDefEqProofs only [go_sem] at w2
  cases h
  simp -implicitDefEqProofs only [go_sem, Nat.reduceLT, Nat.reduceAdd, Nat.reduceMul, Nat.reduceEqDiff, Nat.reduceLeDiff, reduceCtorEq, ↓reduceIte, i82, c82, w2]
-- f42 spec.l7Term
theorem call42 (args : List AV) (S : St) : evCall T (evFL T) 42 args S = lendC (evFL T 42) S (lendAll S [[4, 2, 0, 2, 0]] args) := evCall0 fn42 rfl rfl rfl args S
theorem callz42 (args : List AV) (S : St) : evCallFz T (evFL T) 42 args S = lendZ (evFL T 42) S [[0]] (lendAll S [[4, 2, 0, 2, 0]] args) := evCallFz0 fn42 rfl rfl rfl args S
theorem calls42 (args : List AV) (S : St) : evCall (T.at true) (evFL T) 42 args S = lendC (evFL T 42) S (lendAll S [[4, 2, 0, 2, 0]] args) := evCall0 fns42 rfl rfl rfl args S
theorem callsz42 (args : List AV) (S : St) : evCallFz (T.at true) (evFL T) 42 args S = lendZ (evFL T 42) S [[0]] (lendAll S [[4, 2, 0, 2, 0]] args) := evCallFz0 fns42 rfl rfl rfl args S
attribute [go_sem] call42 callz42 calls42 callsz42
noncomputable def X42_3 (a0 : Term) (p1 : Int) (s23 : Int) (x25 : Range) (o : Bool) : Ex × Fr × St :=
  (.normal, frOf 78 (upd (upd (upd (upd (upd anyF 1 (.ptr 0 0 0)) 8 (.ts .imm 4 (a0.ranges.map encRange))) 9 (.int .i64 p1)) 10 (.int .i64 s23)) 34 (.bool o)), [some ⟨.box, 5, [[.ts .imm 4 (a0.ranges.map encRange), .ts .imm 2 (a0.path.map encReCell), .int .i64 a0.comm, .ts .imm 2 (a0.acts.map encAcn), .int .i64 a0.verdict]]⟩])
theorem e42_3 (a0 : Term) (p1 : Int) (s23 : Int) (x25 : Range) (o : Bool) (h : m42_3 x25 = some o) : evCL T 0 k42_3 (frOf 78 (upd (upd (upd (upd (upd anyF 1 (.ptr 0 0 0)) 4 (.ptr 1 0 0)) 8 (.ts .imm 4 (a0.ranges.map encRange))) 9 (.int .i64 p1)) 10 (.int .i64 s23))) [some ⟨.box, 5, [[.ts .imm 4 (a0.ranges.map encRange), .ts .imm 2 (a0.path.map encReCell), .int .i64 a0.comm, .ts .imm 2 (a0.acts.map encAcn), .int .i64 a0.verdict]]⟩, some ⟨.box, 4, [[.int .i64 x25.prefix_.addr, .int .i64 x25.prefix_.len, .int .i64 x25.lo, .int .i64 x25.hi]]⟩] = some (X42_3 a0 p1 s23 x25 o) := by
  unfold m42_3 at h
  obtain ⟨r32, q30, h⟩ := bnd_some h
  have w31 := e33 x25.prefix_ r32 q30
  try simp -implicitDefEqProofs only [go_sem] at w31
  try simp -implicitDefEqProofs only [go_sem, Nat.reduceLT, Nat.reduceAdd, Nat.reduceMul, Nat.reduceEqDiff, Nat.reduceLeDiff, reduceCtorEq, ↓reduceIte, X42_3, k42_3, w31]
  cases b33 : (r32 : Bool)
  · replace h := br_f b33 h
    cases h
    simp -implicitDefEqProofs only [go_sem, Nat.reduceLT, Nat.reduceAdd, Nat.reduceMul, Nat.reduceEqDiff, Nat.reduceLeDiff, reduceCtorEq, ↓reduceIte, X42_3, k42_3, w31, b33]
  · replace h := br_t b33 h
    obtain ⟨r36, q34, h⟩ := bnd_some h
    have w35 := e71 x25.lo x25.prefix_.len 32 r36 q34
    try simp -implicitDefEqProofs only [go_sem] at w35
    try simp -implicitDefEqProofs only [go_sem, Nat.reduceLT, Nat.reduceAdd, Nat.reduceMul, Nat.reduceEqDiff, Nat.reduceLeDiff, reduceCtorEq, ↓reduceIte, X42_3, k42_3, w31, b33, w35]
    cases b37 : (r36 : Bool)
    · replace h := br_f b37 h
      cases h
      simp -implicitDefEqProofs only [go_sem, Nat.reduceLT, Nat.reduceAdd, Nat.reduceMul, Nat.reduceEqDiff, Nat.reduceLeDiff, reduceCtorEq, ↓reduceIte, X42_3, k42_3, w31, b33, w35, b37]
    · replace h := br_t b37 h
      obtain ⟨r40, q38, h⟩ := bnd_some h
      have w39 := e71 x25.hi x25.lo 32 r40 q38
      try simp -implicitDefEqProofs only [go_sem] at w39
      cases h
      simp -implicitDefEqProofs only [go_sem, Nat.reduceLT, Nat.reduceAdd, Nat.reduceMul, Nat.reduceEqDiff, Nat.reduceLeDiff, reduceCtorEq, ↓reduceIte, X42_3, k42_3, w31, b33, w35, b37, w39]
noncomputable def X42_1 (a0 : Term) (p1 : Int) (o : (Unit ⊕ Unit)) : Ex × Fr × St :=
  match o with
  | .inl o => (.exit 0, frOf 78 (upd anyF 1 (.ptr 0 0 0)), [some ⟨.box, 5, [[.ts .imm 4 (a0.ranges.map encRange), .ts .imm 2 (a0.path.map encReCell), .int .i64 a0.comm, .ts .imm 2 (a0.acts.map encAcn), .int .i64 a0.verdict]]⟩])
  | .inr o => (.ret, frOf 78 (upd anyF 2 (.bool false)), [])
noncomputable def E42_1 (a0 : Term) (p1 : Int) (s : Int) : Fr × St := (frOf 78 (upd (upd (upd (upd anyF 1 (.ptr 0 0 0)) 8 (.ts .imm 4 (a0.ranges.map encRange))) 9 (.int .i64 p1)) 10 (.int .i64 s)), [some ⟨.box, 5, [[.ts .imm 4 (a0.ranges.map encRange), .ts .imm 2 (a0.path.map encReCell), .int .i64 a0.comm, .ts .imm 2 (a0.acts.map encAcn), .int .i64 a0.verdict]]⟩])
theorem b42_1 (a0 : Term) (p1 : Int) (s : Int) (o : Ctl Int (Unit ⊕ Unit)) (h : m42_1b a0 p1 s = some o) : evCL T 0 k42_1b (E42_1 a0 p1 s).1 (E42_1 a0 p1 s).2 = some (ctlX (E42_1 a0 p1) (X42_1 a0 p1) o) := by
  unfold m42_1b at h
  revert h
  generalize s = s23
  intro h
  try simp -implicitDefEqProofs only [go_sem, Nat.reduceLT, Nat.reduceAdd, Nat.reduceMul, Nat.reduceEqDiff, Nat.reduceLeDiff, reduceCtorEq, ↓reduceIte, E42_1, X42_1, k42_1b]
  cases b24 : (ltI s23 p1 : Bool)
  · replace h := br_f b24 h
    cases h
    simp -implicitDefEqProofs only [go_sem, Nat.reduceLT, Nat.reduceAdd, Nat.reduceMul, Nat.reduceEqDiff, Nat.reduceLeDiff, reduceCtorEq, ↓reduceIte, E42_1, X42_1, k42_1b, b24]
  · replace h := br_t b24 h
    obtain ⟨x25, q26, h⟩ := bnd_some h
    obtain ⟨g27, g28, g29⟩ := idx_row encRange q26
    try simp -implicitDefEqProofs only [go_sem] at g28
    try simp -implicitDefEqProofs only [go_sem] at g29
    obtain ⟨v43, q41, h⟩ := bnd_some h
    have w42 := e42_3 a0 p1 s23 x25 v43 q41
    simp only [X42_3] at w42
    try simp -implicitDefEqProofs only [go_sem] at w42
    try simp -implicitDefEqProofs only [go_sem, Nat.reduceLT, Nat.reduceAdd, Nat.reduceMul, Nat.reduceEqDiff, Nat.reduceLeDiff, reduceCtorEq, ↓reduceIte, E42_1, X42_1, k42_1b, b24, g27, g28, g29, w42]
    cases b44 : (v43 : Bool)
    · replace h := br_f b44 h
      cases h
      simp -implicitDefEqProofs only [go_sem, Nat.reduceLT, Nat.reduceAdd, Nat.reduceMul, Nat.reduceEqDiff, Nat.reduceLeDiff, reduceCtorEq, ↓reduceIte, E42_1, X42_1, k42_1b, b24, g27, g28, g29, w42, b44]
    · replace h := br_t b44 h
      cases h
      simp -implicitDefEqProofs only [go_sem, Nat.reduceLT, Nat.reduceAdd, Nat.reduceMul, Nat.reduceEqDiff, Nat.reduceLeDiff, reduceCtorEq, ↓reduceIte, E42_1, X42_1, k42_1b, b24, g27, g28, g29, w42, b44]
theorem e42_1 (a0 : Term) (p1 : Int) (s : Int) (o : (Unit ⊕ Unit)) (h : loopP (m42_1b a0 p1) s = some o) : evCL T 0 (.loop k42_1b) (E42_1 a0 p1 s).1 (E42_1 a0 p1 s).2 = some (X42_1 a0 p1 o) :=
  loop_walk (E := E42_1 a0 p1) (X := X42_1 a0 p1) (by intro b; rcases b with b | b <;> (simp only [X42_1]; nofun)) (b42_1 a0 p1) s o h
noncomputable def X42_4 (a0 : Term) (p47 : Int) (o : (Unit ⊕ Unit)) : Ex × Fr × St :=
  match o with
  | .inl o => (.exit 2, frOf 78 (upd anyF 1 (.ptr 0 0 0)), [some ⟨.box, 5, [[.ts .imm 4 (a0.ranges.map encRange), .ts .imm 2 (a0.path.map encReCell), .int .i64 a0.comm, .ts .imm 2 (a0.acts.map encAcn), .int .i64 a0.verdict]]⟩])
  | .inr o => (.ret, frOf 78 (upd anyF 2 (.bool false)), [])
noncomputable def E42_4 (a0 : Term) (p47 : Int) (s : Int) : Fr × St := (frOf 78 (upd (upd (upd (upd anyF 1 (.ptr 0 0 0)) 37 (.ts .imm 2 (a0.acts.map encAcn))) 38 (.int .i64 p47)) 39 (.int .i64 s)), [some ⟨.box, 5, [[.ts .imm 4 (a0.ranges.map encRange), .ts .imm 2 (a0.path.map encReCell), .int .i64 a0.comm, .ts .imm 2 (a0.acts.map encAcn), .int .i64 a0.verdict]]⟩])
theorem b42_4 (a0 : Term) (p47 : Int) (s : Int) (o : Ctl Int (Unit ⊕ Unit)) (h : m42_4b a0 p47 s = some o) : evCL T 0 k42_4b (E42_4 a0 p47 s).1 (E42_4 a0 p47 s).2 = some (ctlX (E42_4 a0 p47) (X42_4 a0 p47) o) := by
  unfold m42_4b at h
  revert h
  generalize s = s58
  intro h
  try simp -implicitDefEqProofs only [go_sem, Nat.reduceLT, Nat.reduceAdd, Nat.reduceMul, Nat.reduceEqDiff, Nat.reduceLeDiff, reduceCtorEq, ↓reduceIte, E42_4, X42_4, k42_4b]
  cases b59 : (ltI s58 p47 : Bool)
  · replace h := br_f b59 h
    cases h
    simp -implicitDefEqProofs only [go_sem, Nat.reduceLT, Nat.reduceAdd, Nat.reduceMul, Nat.reduceEqDiff, Nat.reduceLeDiff, reduceCtorEq, ↓reduceIte, E42_4, X42_4, k42_4b, b59]
  · replace h := br_t b59 h
    obtain ⟨x60, q61, h⟩ := bnd_some h
    obtain ⟨g62, g63, g64⟩ := idx_row encAcn q61
    try simp -implicitDefEqProofs only [go_sem] at g63
    try simp -implicitDefEqProofs only [go_sem] at g64
    obtain ⟨r67, q65, h⟩ := bnd_some h
    have w66 := e48 x60 r67 q65
    try simp -implicitDefEqProofs only [go_sem] at w66
    try simp -implicitDefEqProofs only [go_sem, Nat.reduceLT, Nat.reduceAdd, Nat.reduceMul, Nat.reduceEqDiff, Nat.reduceLeDiff, reduceCtorEq, ↓reduceIte, E42_4, X42_4, k42_4b, b59, g62, g63, g64, w66]
    cases b68 : (r67 : Bool)
    · replace h := br_f b68 h
      cases h
      simp -implicitDefEqProofs only [go_sem, Nat.reduceLT, Nat.reduceAdd, Nat.reduceMul, Nat.reduceEqDiff, Nat.reduceLeDiff, reduceCtorEq, ↓reduceIte, E42_4, X42_4, k42_4b, b59, g62, g63, g64, w66, b68]
    · replace h := br_t b68 h
      cases h
      simp -implicitDefEqProofs only [go_sem, Nat.reduceLT, Nat.reduceAdd, Nat.reduceMul, Nat.reduceEqDiff, Nat.reduceLeDiff, reduceCtorEq, ↓reduceIte, E42_4, X42_4, k42_4b, b59, g62, g63, g64, w66, b68]
theorem e42_4 (a0 : Term) (p47 : Int) (s : Int) (o : (Unit ⊕ Unit)) (h : loopP (m42_4b a0 p47) s = some o) : evCL T 0 (.loop k42_4b) (E42_4 a0 p47 s).1 (E42_4 a0 p47 s).2 = some (X42_4 a0 p47 o) :=
  loop_walk (E := E42_4 a0 p47) (X := X42_4 a0 p47) (by intro b; rcases b with b | b <;> (simp only [X42_4]; nofun)) (b42_4 a0 p47) s o h
noncomputable def X42_5 (a0 : Term) (o : Bool) : Ex × Fr × St :=
  (.normal, frOf 78 (upd anyF 2 (.bool o)), [])
theorem e42_5 (a0 : Term) (o : Bool) (h : m42_5 a0 = some o) : evCL T 0 k42_5 (frOf 78 (upd anyF 1 (.ptr 0 0 0))) [some ⟨.box, 5, [[.ts .imm 4 (a0.ranges.map encRange), .ts .imm 2 (a0.path.map encReCell), .int .i64 a0.comm, .ts .imm 2 (a0.acts.map encAcn), .int .i64 a0.verdict]]⟩] = some (X42_5 a0 o) := by
  unfold m42_5 at h
  try simp -implicitDefEqProofs only [go_sem, Nat.reduceLT, Nat.reduceAdd, Nat.reduceMul, Nat.reduceEqDiff, Nat.reduceLeDiff, reduceCtorEq, ↓reduceIte, X42_5, k42_5]
  cases b71 : (leI (↑a0.ranges.length : Int) 6 : Bool)
  · replace h := br_f b71 h
    cases h
    simp -implicitDefEqProofs only [go_sem, Nat.reduceLT, Nat.reduceAdd, Nat.reduceMul, Nat.reduceEqDiff, Nat.reduceLeDiff, reduceCtorEq, ↓reduceIte, X42_5, k42_5, b71]
  · replace h := br_t b71 h
    try simp -implicitDefEqProofs only [go_sem, Nat.reduceLT, Nat.reduceAdd, Nat.reduceMul, Nat.reduceEqDiff, Nat.reduceLeDiff, reduceCtorEq, ↓reduceIte, X42_5, k42_5, b71]
    cases b72 : (leI (↑a0.acts.length : Int) 5 : Bool)
    · replace h := br_f b72 h
      cases h
      simp -implicitDefEqProofs only [go_sem, Nat.reduceLT, Nat.reduceAdd, Nat.reduceMul, Nat.reduceEqDiff, Nat.reduceLeDiff, reduceCtorEq, ↓reduceIte, X42_5, k42_5, b71, b72]
    · replace h := br_t b72 h
      try simp -implicitDefEqProofs only [go_sem, Nat.reduceLT, Nat.reduceAdd, Nat.reduceMul, Nat.reduceEqDiff, Nat.reduceLeDiff, reduceCtorEq, ↓reduceIte, X42_5, k42_5, b71, b72]
      cases b73 : (eqI (↑a0.path.length : Int) 0 : Bool)
      · replace h := br_f b73 h
        obtain ⟨r83, q81, h⟩ := bnd_some h
        have w82 := e82 a0.path r83 q81
        try simp -implicitDefEqProofs only [go_sem] at w82
        try simp -implicitDefEqProofs only [go_sem, Nat.reduceLT, Nat.reduceAdd, Nat.reduceMul, Nat.reduceEqDiff, Nat.reduceLeDiff, reduceCtorEq, ↓reduceIte, X42_5, k42_5, b71, b72, b73, w82]
        cases b84 : (r83 : Bool)
        · replace h := br_f b84 h
          cases h
          simp -implicitDefEqProofs only [go_sem, Nat.reduceLT, Nat.reduceAdd, Nat.reduceMul, Nat.reduceEqDiff, Nat.reduceLeDiff, reduceCtorEq, ↓reduceIte, X42_5, k42_5, b71, b72, b73, w82, b84]
        · replace h := br_t b84 h
          obtain ⟨r87, q85, h⟩ := bnd_some h
          have w86 := e71 a0.comm (-1) 1000000 r87 q85
          try simp -implicitDefEqProofs only [go_sem] at w86
          try simp -implicitDefEqProofs only [go_sem, Nat.reduceLT, Nat.reduceAdd, Nat.reduceMul, Nat.reduceEqDiff, Nat.reduceLeDiff, reduceCtorEq, ↓reduceIte, X42_5, k42_5, b71, b72, b73, w82, b84, w86]
          cases b88 : (r87 : Bool)
          · replace h := br_f b88 h
            cases h
            simp -implicitDefEqProofs only [go_sem, Nat.reduceLT, Nat.reduceAdd, Nat.reduceMul, Nat.reduceEqDiff, Nat.reduceLeDiff, reduceCtorEq, ↓reduceIte, X42_5, k42_5, b71, b72, b73, w82, b84, w86, b88]
          · replace h := br_t b88 h
            obtain ⟨r91, q89, h⟩ := bnd_some h
            have w90 := e71 a0.verdict 0 2 r91 q89
            try simp -implicitDefEqProofs only [go_sem] at w90
            cases h
            simp -implicitDefEqProofs only [go_sem, Nat.reduceLT, Nat.reduceAdd, Nat.reduceMul, Nat.reduceEqDiff, Nat.reduceLeDiff, reduceCtorEq, ↓reduceIte, X42_5, k42_5, b71, b72, b73, w82, b84, w86, b88, w90]
      · replace h := br_t b73 h
        obtain ⟨r76, q74, h⟩ := bnd_some h
        have w75 := e71 a0.comm (-1) 1000000 r76 q74
        try simp -implicitDefEqProofs only [go_sem] at w75
        try simp -implicitDefEqProofs only [go_sem, Nat.reduceLT, Nat.reduceAdd, Nat.reduceMul, Nat.reduceEqDiff, Nat.reduceLeDiff, reduceCtorEq, ↓reduceIte, X42_5, k42_5, b71, b72, b73, w75]
        cases b77 : (r76 : Bool)
        · replace h := br_f b77 h
          cases h
          simp -implicitDefEqProofs only [go_sem, Nat.reduceLT, Nat.reduceAdd, Nat.reduceMul, Nat.reduceEqDiff, Nat.reduceLeDiff, reduceCtorEq, ↓reduceIte, X42_5, k42_5, b71, b72, b73, w75, b77]
        · replace h := br_t b77 h
          obtain ⟨r80, q78, h⟩ := bnd_some h
          have w79 := e71 a0.verdict 0 2 r80 q78
          try simp -implicitDefEqProofs only [go_sem] at w79
          cases h
          simp -implicitDefEqProofs only [go_sem, Nat.reduceLT, Nat.reduceAdd, Nat.reduceMul, Nat.reduceEqDiff, Nat.reduceLeDiff, reduceCtorEq, ↓reduceIte, X42_5, k42_5, b71, b72, b73, w75, b77, w79]
theorem e42 (a0 : Term) (r : Bool) (h : m42 a0 = some r) : evFL T 42 [.agg [.ts .imm 4 (a0.ranges.map encRange), .ts .imm 2 (a0.path.map encReCell), .int .i64 a0.comm, .ts .imm 2 (a0.acts.map encAcn), .int .i64 a0.verdict]] [] = some (.bool r, []) := by
  unfold m42 at h
  rw [evFL_at fn42 (Nat.le_of_ble_eq_true rfl) rfl (.inr rfl) ⟨rfl, rfl⟩]
  try simp -implicitDefEqProofs only [go_sem, Nat.reduceLT, Nat.reduceAdd, Nat.reduceMul, Nat.reduceEqDiff, Nat.reduceLeDiff, reduceCtorEq, ↓reduceIte, i42, c42]
  obtain ⟨o, q45, h⟩ := bnd_some h
  rcases o with ⟨⟩ | ⟨⟩
  · replace h := selS_l h
    have w46 := e42_1 a0 (↑a0.ranges.length : Int) 0 (.inl ()) q45
    simp only [E42_1, X42_1] at w46
    try simp -implicitDefEqProofs only [go_sem] at w46
    try simp -implicitDefEqProofs only [go_sem, Nat.reduceLT, Nat.reduceAdd, Nat.reduceMul, Nat.reduceEqDiff, Nat.reduceLeDiff, reduceCtorEq, ↓reduceIte, i42, c42, w46]
    obtain ⟨o, q69, h⟩ := bnd_some h
    rcases o with ⟨⟩ | ⟨⟩
    · replace h := selS_l h
      have w70 := e42_4 a0 (↑a0.acts.length : Int) 0 (.inl ()) q69
      simp only [E42_4, X42_4] at w70
      try simp -implicitDefEqProofs only [go_sem] at w70
      obtain ⟨v94, q92, h⟩ := bnd_some h
      have w93 := e42_5 a0 v94 q92
      simp only [X42_5] at w93
      try simp -implicitDefEqProofs only [go_sem] at w93
      cases h
      simp -implicitDefEqProofs only [go_sem, Nat.reduceLT, Nat.reduceAdd, Nat.reduceMul, Nat.reduceEqDiff, Nat.reduceLeDiff, reduceCtorEq, ↓reduceIte, i42, c42, w46, w70, w93]
    · replace h := selS_r h
      have w70 := e42_4 a0 (↑a0.acts.length : Int) 0 (.inr ()) q69
      simp only [E42_4, X42_4] at w70
      try simp -implicitDefEqProofs only [go_sem] at w70
      cases h
      simp -implicitDefEqProofs only [go_sem, Nat.reduceLT, Nat.reduceAdd, Nat.reduceMul, Nat.reduceEqDiff, Nat.reduceLeDiff, reduceCtorEq, ↓reduceIte, i42, c42, w46, w70]
  · replace h := selS_r h
    have w46 := e42_1 a0 (↑a0.ranges.length : Int) 0 (.inr ()) q45
    simp only [E42_1, X42_1] at w46
    try simp -implicitDefEqProofs only [go_sem] at w46
    cases h
    simp -implicitDefEqProofs only [go_sem, Nat.reduceLT, Nat.reduceAdd, Nat.reduceMul, Nat.reduceEqDiff, Nat.reduceLeDiff, reduceCtorEq, ↓reduceIte, i42, c42, w46]
-- f14 spec.GoodPolicy
theorem call14 (args : List AV) (S : St) : evCall T (evFL T) 14 args S = lendC (evFL T 14) S (lendAll S [[5, 0]] args) := evCall0 fn14 rfl rfl rfl args S
theorem callz14 (args : List AV) (S : St) : evCallFz T (evFL T) 14 args S = lendZ (evFL T 14) S [[0]] (lendAll S [[5, 0]] args) := evCallFz0 fn14 rfl rfl rfl args S
theorem calls14 (args : List AV) (S : St) : evCall (T.at true) (evFL T) 14 args S = lendC (evFL T 14) S (lendAll S [[5, 0]] args) := evCall0 fns14 rfl rfl rfl args S
theorem callsz14 (args : List AV) (S : St) : evCallFz (T.at true) (evFL T) 14 args S = lendZ (evFL T 14) S [[0]] (lendAll S [[5, 0]] args) := evCallFz0 fns14 rfl rfl rfl args S
attribute [go_sem] call14 callz14 calls14 callsz14
noncomputable def X14_1 (a0 : Policy) (p1 : Int) (o : (Unit ⊕ Unit)) : Ex × Fr × St :=
  match o with
  | .inl o => (.exit 0, frOf 20 (upd anyF 1 (.ptr 0 0 0)), [some ⟨.box, 2, [[.ts .imm 5 (a0.terms.map (encTerm .imm)), .bool a0.accept]]⟩])
  | .inr o => (.ret, frOf 20 (upd anyF 2 (.bool false)), [])
noncomputable def E14_1 (a0 : Policy) (p1 : Int) (s : Int) : Fr × St := (frOf 20 (upd (upd (upd (upd anyF 1 (.ptr 0 0 0)) 6 (.ts .imm 5 (a0.terms.map (encTerm .imm)))) 7 (.int .i64 p1)) 8 (.int .i64 s)), [some ⟨.box, 2, [[.ts .imm 5 (a0.terms.map (encTerm .imm)), .bool a0.accept]]⟩])
theorem b14_1 (a0 : Policy) (p1 : Int) (s : Int) (o : Ctl Int (Unit ⊕ Unit)) (h : m14_1b a0 p1 s = some o) : evCL T 0 k14_1b (E14_1 a0 p1 s).1 (E14_1 a0 p1 s).2 = some (ctlX (E14_1 a0 p1) (X14_1 a0 p1) o) := by
  unfold m14_1b at h
  revert h
  generalize s = s12
  intro h
  try simp -implicitDefEqProofs only [go_sem, Nat.reduceLT, Nat.reduceAdd, Nat.reduceMul, Nat.reduceEqDiff, Nat.reduceLeDiff, reduceCtorEq, ↓reduceIte, E14_1, X14_1, k14_1b]
  cases b13 : (ltI s12 p1 : Bool)
  · replace h := br_f b13 h
    cases h
    simp -implicitDefEqProofs only [go_sem, Nat.reduceLT, Nat.reduceAdd, Nat.reduceMul, Nat.reduceEqDiff, Nat.reduceLeDiff, reduceCtorEq, ↓reduceIte, E14_1, X14_1, k14_1b, b13]
  · replace h := br_t b13 h
    obtain ⟨x14, q15, h⟩ := bnd_some h
    obtain ⟨g16, g17, g18⟩ := idx_row (encTerm .imm) q15
    try simp -implicitDefEqProofs only [go_sem] at g17
    try simp -implicitDefEqProofs only [go_sem] at g18
    obtain ⟨r21, q19, h⟩ := bnd_some h
    have w20 := e42 x14 r21 q19
    try simp -implicitDefEqProofs only [go_sem] at w20
    try simp -implicitDefEqProofs only [go_sem, Nat.reduceLT, Nat.reduceAdd, Nat.reduceMul, Nat.reduceEqDiff, Nat.reduceLeDiff, reduceCtorEq, ↓reduceIte, E14_1, X14_1, k14_1b, b13, g16, g17, g18, w20]
    cases b22 : (r21 : Bool)
    · replace h := br_f b22 h
      cases h
      simp -implicitDefEqProofs only [go_sem, Nat.reduceLT, Nat.reduceAdd, Nat.reduceMul, Nat.reduceEqDiff, Nat.reduceLeDiff, reduceCtorEq, ↓reduceIte, E14_1, X14_1, k14_1b, b13, g16, g17, g18, w20, b22]
    · replace h := br_t b22 h
      cases h
      simp -implicitDefEqProofs only [go_sem, Nat.reduceLT, Nat.reduceAdd, Nat.reduceMul, Nat.reduceEqDiff, Nat.reduceLeDiff, reduceCtorEq, ↓reduceIte, E14_1, X14_1, k14_1b, b13, g16, g17, g18, w20, b22]
theorem e14_1 (a0 : Policy) (p1 : Int) (s : Int) (o : (Unit ⊕ Unit)) (h : loopP (m14_1b a0 p1) s = some o) : evCL T 0 (.loop k14_1b) (E14_1 a0 p1 s).1 (E14_1 a0 p1 s).2 = some (X14_1 a0 p1 o) :=
  loop_walk (E := E14_1 a0 p1) (X := X14_1 a0 p1) (by intro b; rcases b with b | b <;> (simp only [X14_1]; nofun)) (b14_1 a0 p1) s o h
theorem e14 (a0 : Policy) (r : Bool) (h : m14 a0 = some r) : evFL T 14 [.agg [.ts .imm 5 (a0.terms.map (encTerm .imm)), .bool a0.accept]] [] = some (.bool r, []) := by
  unfold m14 at h
  rw [evFL_at fn14 (Nat.le_of_ble_eq_true rfl) rfl (.inr rfl) ⟨rfl, rfl⟩]
  try simp -implicitDefEqProofs only [go_sem, Nat.reduceLT, Nat.reduceAdd, Nat.reduceMul, Nat.reduceEqDiff, Nat.reduceLeDiff, reduceCtorEq, ↓reduceIte, i14, c14]
  obtain ⟨o, q23, h⟩ := bnd_some h
  rcases o with ⟨⟩ | ⟨⟩
  · replace h := selS_l h
    have w24 := e14_1 a0 (↑a0.terms.length : Int) 0 (.inl ()) q23
    simp only [E14_1, X14_1] at w24
    try simp -implicitDefEqProofs only [go_sem] at w24
    cases h
    simp -implicitDefEqProofs only [go_sem, Nat.reduceLT, Nat.reduceAdd, Nat.reduceMul, Nat.reduceEqDiff, Nat.reduceLeDiff, reduceCtorEq, ↓reduceIte, i14, c14, w24]
  · replace h := selS_r h
    have w24 := e14_1 a0 (↑a0.terms.length : Int) 0 (.inr ()) q23
    simp only [E14_1, X14_1] at w24
    try simp -implicitDefEqProofs only [go_sem] at w24
    cases h
    simp -implicitDefEqProofs only [go_sem, Nat.reduceLT, Nat.reduceAdd, Nat.reduceMul, Nat.reduceEqDiff, Nat.reduceLeDiff, reduceCtorEq, ↓reduceIte, i14, c14, w24]
-- f54 spec.l7OwnTerm
theorem call54 (args : List AV) (S : St) : evCall T (evFL T) 54 args S = lendC (evFL T 54) S (lendAll S [[4, 2, 0, 2, 0]] args) := evCall0 fn54 rfl rfl rfl args S
theorem callz54 (args : List AV) (S : St) : evCallFz T (evFL T) 54 args S = lendZ (evFL T 54) S [[4, 2, 0, 2, 0]] (lendAll S [[4, 2, 0, 2, 0]] args) := evCallFz0 fn54 rfl rfl rfl args S
theorem calls54 (args : List AV) (S : St) : evCall (T.at true) (evFL T) 54 args S = lendC (evFL T 54) S (lendAll S [[4, 2, 0, 2, 0]] args) := evCall0 fns54 rfl rfl rfl args S
theorem callsz54 (args : List AV) (S : St) : evCallFz (T.at true) (evFL T) 54 args S = lendZ (evFL T 54) S [[4, 2, 0, 2, 0]] (lendAll S [[4, 2, 0, 2, 0]] args) := evCallFz0 fns54 rfl rfl rfl args S
attribute [go_sem] call54 callz54 calls54 callsz54
theorem e54 (a0 : Term) (r : Term) (h : m54 a0 = some r) : evFL T 54 [.agg [.ts .imm 4 (a0.ranges.map encRange), .ts .imm 2 (a0.path.map encReCell), .int .i64 a0.comm, .ts .imm 2 (a0.acts.map encAcn), .int .i64 a0.verdict]] [] = some (.agg [.sl 0 0 r.ranges.length, .sl 1 0 r.path.length, .int .i64 r.comm, .sl 2 0 r.acts.length, .int .i64 r.verdict], [some ⟨.arr, 4, r.ranges.map encRange⟩, some ⟨.arr, 2, r.path.map encReCell⟩, some ⟨.arr, 2, r.acts.map encAcn⟩]) := by
  unfold m54 at h
  rw [evFL_at fn54 (Nat.le_of_ble_eq_true rfl) rfl (.inr rfl) ⟨rfl, rfl⟩]
  obtain ⟨g1, h⟩ := ck_some h
  try simp -implicitDefEqProofs only [go_sem] at g1
  obtain ⟨g2, h⟩ := ck_some h
  try simp -implicitDefEqProofs only [go_sem] at g2
  obtain ⟨g3, h⟩ := ck_some h
  try simp -implicitDefEqProofs only [go_sem] at g3
  cases h
  simp -implicitDefEqProofs only [go_sem, Nat.reduceLT, Nat.reduceAdd, Nat.reduceMul, Nat.reduceEqDiff, Nat.reduceLeDiff, reduceCtorEq, ↓reduceIte, i54, c54, g1, g2, g3]
-- f23 spec.ThenPolicy
theorem call23 (args : List AV) (S : St) : evCall T (evFL T) 23 args S = lendC (evFL T 23) S (lendAll S [[5, 0], [5, 0]] args) := evCall0 fn23 rfl rfl rfl args S
theorem callz23 (args : List AV) (S : St) : evCallFz T (evFL T) 23 args S = lendZ (evFL T 23) S [[5, 0], [0]] (lendAll S [[5, 0], [5, 0]] args) := evCallFz0 fn23 rfl rfl rfl args S
theorem calls23 (args : List AV) (S : St) : evCall (T.at true) (evFL T) 23 args S = lendC (evFL T 23) S (lendAll S [[5, 0], [5, 0]] args) := evCall0 fns23 rfl rfl rfl args S
theorem callsz23 (args : List AV) (S : St) : evCallFz (T.at true) (evFL T) 23 args S = lendZ (evFL T 23) S [[5, 0], [0]] (lendAll S [[5, 0], [5, 0]] args) := evCallFz0 fns23 rfl rfl rfl args S
attribute [go_sem] call23 callz23 calls23 callsz23
noncomputable def X23_1 (a0 : Policy) (a1 : Policy) (o : Bool) : Ex × Fr × St :=
  (.normal, frOf 73 (upd (upd (upd (upd anyF 2 (.ptr 0 0 0)) 3 (.ptr 1 0 0)) 4 (.ptr 2 0 0)) 33 (.bool o)), [some ⟨.box, 2, [[.ts .imm 5 (a0.terms.map (encTerm .imm)), .bool a0.accept]]⟩, some ⟨.box, 2, [[.ts .imm 5 (a1.terms.map (encTerm .imm)), .bool a1.accept]]⟩, some ⟨.box, 2, [[.sl 3 0 0, .bool false]]⟩, some ⟨.arr, 5, []⟩])
theorem e23_1 (a0 : Policy) (a1 : Policy) (o : Bool) (h : m23_1 a0 a1 = some o) : evCL T 0 k23_1 (frOf 73 (upd (upd (upd anyF 2 (.ptr 0 0 0)) 3 (.ptr 1 0 0)) 4 (.ptr 2 0 0))) [some ⟨.box, 2, [[.ts .imm 5 (a0.terms.map (encTerm .imm)), .bool a0.accept]]⟩, some ⟨.box, 2, [[.ts .imm 5 (a1.terms.map (encTerm .imm)), .bool a1.accept]]⟩, some ⟨.box, 2, [[.sl 3 0 0, .bool false]]⟩, some ⟨.arr, 5, []⟩] = some (X23_1 a0 a1 o) := by
  unfold m23_1 at h
  obtain ⟨r3, q1, h⟩ := bnd_some h
  have w2 := e14 a0 r3 q1
  try simp -implicitDefEqProofs only [go_sem] at w2
  try simp -implicitDefEqProofs only [go_sem, Nat.reduceLT, Nat.reduceAdd, Nat.reduceMul, Nat.reduceEqDiff, Nat.reduceLeDiff, reduceCtorEq, ↓reduceIte, X23_1, k23_1, w2]
  cases b4 : (r3 : Bool)
  · replace h := br_f b4 h
    cases h
    simp -implicitDefEqProofs only [go_sem, Nat.reduceLT, Nat.reduceAdd, Nat.reduceMul, Nat.reduceEqDiff, Nat.reduceLeDiff, reduceCtorEq, ↓reduceIte, X23_1, k23_1, w2, b4]
  · replace h := br_t b4 h
    obtain ⟨r7, q5, h⟩ := bnd_some h
    have w6 := e14 a1 r7 q5
    try simp -implicitDefEqProofs only [go_sem] at w6
    try simp -implicitDefEqProofs only [go_sem, Nat.reduceLT, Nat.reduceAdd, Nat.reduceMul, Nat.reduceEqDiff, Nat.reduceLeDiff, reduceCtorEq, ↓reduceIte, X23_1, k23_1, w2, b4, w6]
    cases b8 : (r7 : Bool)
    · replace h := br_f b8 h
      cases h
      simp -implicitDefEqProofs only [go_sem, Nat.reduceLT, Nat.reduceAdd, Nat.reduceMul, Nat.reduceEqDiff, Nat.reduceLeDiff, reduceCtorEq, ↓reduceIte, X23_1, k23_1, w2, b4, w6, b8]
    · replace h := br_t b8 h
      try simp -implicitDefEqProofs only [go_sem, Nat.reduceLT, Nat.reduceAdd, Nat.reduceMul, Nat.reduceEqDiff, Nat.reduceLeDiff, reduceCtorEq, ↓reduceIte, X23_1, k23_1, w2, b4, w6, b8]
      cases b9 : (a0.accept : Bool)
      · replace h := br_f b9 h
        cases h
        simp -implicitDefEqProofs only [go_sem, Nat.reduceLT, Nat.reduceAdd, Nat.reduceMul, Nat.reduceEqDiff, Nat.reduceLeDiff, reduceCtorEq, ↓reduceIte, X23_1, k23_1, w2, b4, w6, b8, b9]
      · replace h := br_t b9 h
        cases h
        simp -implicitDefEqProofs only [go_sem, Nat.reduceLT, Nat.reduceAdd, Nat.reduceMul, Nat.reduceEqDiff, Nat.reduceLeDiff, reduceCtorEq, ↓reduceIte, X23_1, k23_1, w2, b4, w6, b8, b9]
noncomputable def X23_2 (a0 : Policy) (p14 : Int) (a1 : Policy) (o : (List Term ⊕ Unit)) : Ex × Fr × St :=
  match o with
  | .inl o => (.exit 0, frOf 73 (upd (upd (upd anyF 3 (.ptr 0 0 0)) 4 (.ptr 1 0 0)) 6 (.ptr 3 0 0)), [some ⟨.box, 2, [[.ts .imm 5 (a1.terms.map (encTerm .imm)), .bool a1.accept]]⟩, some ⟨.box, 2, [[.sl 2 0 0, .bool false]]⟩, some ⟨.arr, 5, []⟩, some ⟨.box, 2, [[.sl 4 0 o.length, .bool a1.accept]]⟩, some ⟨.arr, 5, o.map (encTerm .own)⟩])
  | .inr o => (.ret, frOf 73 (upd (upd anyF 4 (.ptr 0 0 0)) 5 (.bool false)), [some ⟨.box, 2, [[.sl 1 0 0, .bool false]]⟩, some ⟨.arr, 5, []⟩])
noncomputable def E23_2 (a0 : Policy) (p14 : Int) (a1 : Policy) (s : (Int × List Term)) : Fr × St := (frOf 73 (upd (upd (upd (upd (upd (upd anyF 3 (.ptr 0 0 0)) 4 (.ptr 1 0 0)) 6 (.ptr 3 0 0)) 39 (.ts .imm 5 (a0.terms.map (encTerm .imm)))) 40 (.int .i64 p14)) 41 (.int .i64 s.1)), [some ⟨.box, 2, [[.ts .imm 5 (a1.terms.map (encTerm .imm)), .bool a1.accept]]⟩, some ⟨.box, 2, [[.sl 2 0 0, .bool false]]⟩, some ⟨.arr, 5, []⟩, some ⟨.box, 2, [[.sl 4 0 s.2.length, .bool a1.accept]]⟩, some ⟨.arr, 5, s.2.map (encTerm .own)⟩])
theorem b23_2 (a0 : Policy) (p14 : Int) (a1 : Policy) (s : (Int × List Term)) (o : Ctl (Int × List Term) (List Term ⊕ Unit)) (h : m23_2b a0 p14 s = some o) : evCL T 0 k23_2b (E23_2 a0 p14 a1 s).1 (E23_2 a0 p14 a1 s).2 = some (ctlX (E23_2 a0 p14 a1) (X23_2 a0 p14 a1) o) := by
  unfold m23_2b at h
  obtain ⟨s25, s26⟩ := s
  replace h := sel2_some h
  try simp -implicitDefEqProofs only [go_sem, Nat.reduceLT, Nat.reduceAdd, Nat.reduceMul, Nat.reduceEqDiff, Nat.reduceLeDiff, reduceCtorEq, ↓reduceIte, E23_2, X23_2, k23_2b]
  cases b27 : (ltI s25 p14 : Bool)
  · replace h := br_f b27 h
    cases h
    simp -implicitDefEqProofs only [go_sem, Nat.reduceLT, Nat.reduceAdd, Nat.reduceMul, Nat.reduceEqDiff, Nat.reduceLeDiff, reduceCtorEq, ↓reduceIte, E23_2, X23_2, k23_2b, b27]
  · replace h := br_t b27 h
    obtain ⟨x28, q29, h⟩ := bnd_some h
    obtain ⟨g30, g31, g32⟩ := idx_row (encTerm .imm) q29
    try simp -implicitDefEqProofs only [go_sem] at g31
    try simp -implicitDefEqProofs only [go_sem] at g32
    try simp -implicitDefEqProofs only [go_sem, Nat.reduceLT, Nat.reduceAdd, Nat.reduceMul, Nat.reduceEqDiff, Nat.reduceLeDiff, reduceCtorEq, ↓reduceIte, E23_2, X23_2, k23_2b, b27, g30, g31, g32]
    cases b33 : (eqI x28.verdict 1 : Bool)
    · replace h := br_f b33 h
      obtain ⟨r36, q34, h⟩ := bnd_some h
      have w35 := e54 x28 r36 q34
      try simp -implicitDefEqProofs only [go_sem] at w35
      obtain ⟨g37, h⟩ := ck_some h
      try simp -implicitDefEqProofs only [go_sem] at g37
      cases h
      simp -implicitDefEqProofs only [go_sem, Nat.reduceLT, Nat.reduceAdd, Nat.reduceMul, Nat.reduceEqDiff, Nat.reduceLeDiff, reduceCtorEq, ↓reduceIte, E23_2, X23_2, k23_2b, b27, g30, g31, g32, b33, w35, g37]
    · replace h := br_t b33 h
      cases h
      simp -implicitDefEqProofs only [go_sem, Nat.reduceLT, Nat.reduceAdd, Nat.reduceMul, Nat.reduceEqDiff, Nat.reduceLeDiff, reduceCtorEq, ↓reduceIte, E23_2, X23_2, k23_2b, b27, g30, g31, g32, b33]
theorem e23_2 (a0 : Policy) (p14 : Int) (a1 : Policy) (s : (Int × List Term)) (o : (List Term ⊕ Unit)) (h : loopP (m23_2b a0 p14) s = some o) : evCL T 0 (.loop k23_2b) (E23_2 a0 p14 a1 s).1 (E23_2 a0 p14 a1 s).2 = some (X23_2 a0 p14 a1 o) :=
  loop_walk (E := E23_2 a0 p14 a1) (X := X23_2 a0 p14 a1) (by intro b; rcases b with b | b <;> (simp only [X23_2]; nofun)) (b23_2 a0 p14 a1) s o h
noncomputable def X23_3 (a1 : Policy) (p41 : Int) (o : (List Term)) : Ex × Fr × St :=
  (.exit 2, frOf 73 (upd (upd anyF 4 (.ptr 0 0 0)) 6 (.ptr 2 0 0)), [some ⟨.box, 2, [[.sl 1 0 0, .bool false]]⟩, some ⟨.arr, 5, []⟩, some ⟨.box, 2, [[.sl 3 0 o.length, .bool a1.accept]]⟩, some ⟨.arr, 5, o.map (encTerm .own)⟩])
noncomputable def E23_3 (a1 : Policy) (p41 : Int) (s : (Int × List Term)) : Fr × St := (frOf 73 (upd (upd (upd (upd (upd anyF 4 (.ptr 0 0 0)) 6 (.ptr 2 0 0)) 58 (.ts .imm 5 (a1.terms.map (encTerm .imm)))) 59 (.int .i64 p41)) 60 (.int .i64 s.1)), [some ⟨.box, 2, [[.sl 1 0 0, .bool false]]⟩, some ⟨.arr, 5, []⟩, some ⟨.box, 2, [[.sl 3 0 s.2.length, .bool a1.accept]]⟩, some ⟨.arr, 5, s.2.map (encTerm .own)⟩])
theorem b23_3 (a1 : Policy) (p41 : Int) (s : (Int × List Term)) (o : Ctl (Int × List Term) (List Term)) (h : m23_3b a1 p41 s = some o) : evCL T 0 k23_3b (E23_3 a1 p41 s).1 (E23_3 a1 p41 s).2 = some (ctlX (E23_3 a1 p41) (X23_3 a1 p41) o) := by
  unfold m23_3b at h
  obtain ⟨s52, s53⟩ := s
  replace h := sel2_some h
  try simp -implicitDefEqProofs only [go_sem, Nat.reduceLT, Nat.reduceAdd, Nat.reduceMul, Nat.reduceEqDiff, Nat.reduceLeDiff, reduceCtorEq, ↓reduceIte, E23_3, X23_3, k23_3b]
  cases b54 : (ltI s52 p41 : Bool)
  · replace h := br_f b54 h
    cases h
    simp -implicitDefEqProofs only [go_sem, Nat.reduceLT, Nat.reduceAdd, Nat.reduceMul, Nat.reduceEqDiff, Nat.reduceLeDiff, reduceCtorEq, ↓reduceIte, E23_3, X23_3, k23_3b, b54]
  · replace h := br_t b54 h
    obtain ⟨x55, q56, h⟩ := bnd_some h
    obtain ⟨g57, g58, g59⟩ := idx_row (encTerm .imm) q56
    try simp -implicitDefEqProofs only [go_sem] at g58
    try simp -implicitDefEqProofs only [go_sem] at g59
    obtain ⟨r62, q60, h⟩ := bnd_some h
    have w61 := e54 x55 r62 q60
    try simp -implicitDefEqProofs only [go_sem] at w61
    obtain ⟨g63, h⟩ := ck_some h
    try simp -implicitDefEqProofs only [go_sem] at g63
    cases h
    simp -implicitDefEqProofs only [go_sem, Nat.reduceLT, Nat.reduceAdd, Nat.reduceMul, Nat.reduceEqDiff, Nat.reduceLeDiff, reduceCtorEq, ↓reduceIte, E23_3, X23_3, k23_3b, b54, g57, g58, g59, w61, g63]
theorem e23_3 (a1 : Policy) (p41 : Int) (s : (Int × List Term)) (o : (List Term)) (h : loopP (m23_3b a1 p41) s = some o) : evCL T 0 (.loop k23_3b) (E23_3 a1 p41 s).1 (E23_3 a1 p41 s).2 = some (X23_3 a1 p41 o) :=
  loop_walk (E := E23_3 a1 p41) (X := X23_3 a1 p41) (by intro b; (simp only [X23_3]; nofun)) (b23_3 a1 p41) s o h
theorem e23 (a0 : Policy) (a1 : Policy) (r : (Policy × Bool)) (h : m23 a0 a1 = some r) : evFL T 23 [.agg [.ts .imm 5 (a0.terms.map (encTerm .imm)), .bool a0.accept], .agg [.ts .imm 5 (a1.terms.map (encTerm .imm)), .bool a1.accept]] [] = some (.tup [.agg [.sl 0 0 r.1.terms.length, .bool r.1.accept], .bool r.2], [some ⟨.arr, 5, r.1.terms.map (encTerm .own)⟩]) := by
  unfold m23 at h
  rw [evFL_at fn23 (Nat.le_of_ble_eq_true rfl) rfl (.inr rfl) ⟨rfl, rfl⟩]
  obtain ⟨v12, q10, h⟩ := bnd_some h
  have w11 := e23_1 a0 a1 v12 q10
  simp only [X23_1] at w11
  try simp -implicitDefEqProofs only [go_sem] at w11
  try simp -implicitDefEqProofs only [go_sem, Nat.reduceLT, Nat.reduceAdd, Nat.reduceMul, Nat.reduceEqDiff, Nat.reduceLeDiff, reduceCtorEq, ↓reduceIte, i23, c23, w11]
  cases b13 : (v12 : Bool)
  · replace h := br_f b13 h
    try simp -implicitDefEqProofs only [go_sem, Nat.reduceLT, Nat.reduceAdd, Nat.reduceMul, Nat.reduceEqDiff, Nat.reduceLeDiff, reduceCtorEq, ↓reduceIte, i23, c23, w11, b13]
    obtain ⟨o, q38, h⟩ := bnd_some h
    rcases o with v40 | ⟨⟩
    · replace h := selS_l h
      have w39 := e23_2 a0 (↑a0.terms.length : Int) a1 (0, []) (.inl v40) q38
      simp only [E23_2, X23_2] at w39
      try simp -implicitDefEqProofs only [go_sem] at w39
      obtain ⟨v66, q64, h⟩ := bnd_some h
      have w65 := e23_3 a1 (↑a1.terms.length : Int) (0, v40) v66 q64
      simp only [E23_3, X23_3] at w65
      try simp -implicitDefEqProofs only [go_sem] at w65
      cases h
      simp -implicitDefEqProofs only [go_sem, Nat.reduceLT, Nat.reduceAdd, Nat.reduceMul, Nat.reduceEqDiff, Nat.reduceLeDiff, reduceCtorEq, ↓reduceIte, i23, c23, w11, b13, w39, w65]
    · replace h := selS_r h
      have w39 := e23_2 a0 (↑a0.terms.length : Int) a1 (0, []) (.inr ()) q38
      simp only [E23_2, X23_2] at w39
      try simp -implicitDefEqProofs only [go_sem] at w39
      cases h
      simp -implicitDefEqProofs only [go_sem, Nat.reduceLT, Nat.reduceAdd, Nat.reduceMul, Nat.reduceEqDiff, Nat.reduceLeDiff, reduceCtorEq, ↓reduceIte, i23, c23, w11, b13, w39]
  · replace h := br_t b13 h
    cases h
    simp -implicitDefEqProofs only [go_sem, Nat.reduceLT, Nat.reduceAdd, Nat.reduceMul, Nat.reduceEqDiff, Nat.reduceLeDiff, reduceCtorEq, ↓reduceIte, i23, c23, w11, b13]
-- f83 slices.IndexFunc[[]impl.Term,impl.Term]
theorem call83 (args : List AV) (S : St) : evCall T (evFL T) 83 args S = lendC (evFL T 83) S (lendAll S [[5], [0]] args) := evCall0 fn83 rfl rfl rfl args S
theorem callz83 (args : List AV) (S : St) : evCallFz T (evFL T) 83 args S = lendZ (evFL T 83) S [[0]] (lendAll S [[5], [0]] args) := evCallFz0 fn83 rfl rfl rfl args S
theorem calls83 (args : List AV) (S : St) : evCall (T.at true) (evFL T) 83 args S = lendC (evFL T 83) S (lendAll S [[5], [0]] args) := evCall0 fns83 rfl rfl rfl args S
theorem callsz83 (args : List AV) (S : St) : evCallFz (T.at true) (evFL T) 83 args S = lendZ (evFL T 83) S [[0]] (lendAll S [[5], [0]] args) := evCallFz0 fns83 rfl rfl rfl args S
attribute [go_sem] call83 callz83 calls83 callsz83
noncomputable def X83_1 (a1_f : Nat) (a1_c : List AV) (a0 : (List Term)) (p1 : Int) (a1 : (Term → Option Bool)) (o : (Unit ⊕ Int)) : Ex × Fr × St :=
  match o with
  | .inl o => (.exit 0, frOf 19 (anyF), [])
  | .inr o => (.ret, frOf 19 (upd anyF 4 (.int .i64 o)), [])
noncomputable def E83_1 (a1_f : Nat) (a1_c : List AV) (a0 : (List Term)) (p1 : Int) (a1 : (Term → Option Bool)) (s : Int) : Fr × St := (frOf 19 (upd (upd (upd (upd anyF 0 (.ts .imm 5 (a0.map (encTerm .imm)))) 1 (.fn a1_f a1_c)) 7 (.int .i64 p1)) 8 (.int .i64 s)), [])
theorem b83_1 (a0 : (List Term)) (p1 : Int) (a1 : (Term → Option Bool)) (a1_f : Nat) (a1_c : List AV) (a1_h : ((∀ S, mapO (lendPtr S) a1_c = some a1_c) ∧ (∀ n0 src R tm t c, tdL n0 src R tm t c a1_c = some a1_c)) ∧ ∀ y0 r, a1 y0 = some r → (∀ S, evCall T (evFL T) a1_f ([.agg [.ts .imm 4 (y0.ranges.map encRange), .ts .imm 2 (y0.path.map encReCell), .int .i64 y0.comm, .ts .imm 2 (y0.acts.map encAcn), .int .i64 y0.verdict]] ++ a1_c) S = some (.bool r, S)) ∧ (∀ S, evCallFz T (evFL T) a1_f ([.agg [.ts .imm 4 (y0.ranges.map encRange), .ts .imm 2 (y0.path.map encReCell), .int .i64 y0.comm, .ts .imm 2 (y0.acts.map encAcn), .int .i64 y0.verdict]] ++ a1_c) S = some (.bool r, S))) (s : Int) (o : Ctl Int (Unit ⊕ Int)) (h : m83_1b a0 p1 a1 s = some o) : evCL T 0 k83_1b (E83_1 a1_f a1_c a0 p1 a1 s).1 (E83_1 a1_f a1_c a0 p1 a1 s).2 = some (ctlX (E83_1 a1_f a1_c a0 p1 a1) (X83_1 a1_f a1_c a0 p1 a1) o) := by
  unfold m83_1b at h
  revert h
  generalize s = s12
  intro h
  try simp -implicitDefEqProofs only [go_sem, Nat.reduceLT, Nat.reduceAdd, Nat.reduceMul, Nat.reduceEqDiff, Nat.reduceLeDiff, reduceCtorEq, ↓reduceIte, E83_1, X83_1, k83_1b, a1_h.1]
  cases b13 : (ltI s12 p1 : Bool)
  · replace h := br_f b13 h
    cases h
    simp -implicitDefEqProofs only [go_sem, Nat.reduceLT, Nat.reduceAdd, Nat.reduceMul, Nat.reduceEqDiff, Nat.reduceLeDiff, reduceCtorEq, ↓reduceIte, E83_1, X83_1, k83_1b, a1_h.1, b13]
  · replace h := br_t b13 h
    obtain ⟨x14, q15, h⟩ := bnd_some h
    obtain ⟨g16, g17, g18⟩ := idx_row (encTerm .imm) q15
    try simp -implicitDefEqProofs only [go_sem] at g17
    try simp -implicitDefEqProofs only [go_sem] at g18
    obtain ⟨r19, q20, h⟩ := bnd_some h
    have w21 := a1_h.2 x14 r19 q20
    try simp -implicitDefEqProofs only [go_sem] at w21
    try simp -implicitDefEqProofs only [go_sem, Nat.reduceLT, Nat.reduceAdd, Nat.reduceMul, Nat.reduceEqDiff, Nat.reduceLeDiff, reduceCtorEq, ↓reduceIte, E83_1, X83_1, k83_1b, a1_h.1, b13, g16, g17, g18, w21.1, w21.2]
    cases b22 : (r19 : Bool)
    · replace h := br_f b22 h
      cases h
      simp -implicitDefEqProofs only [go_sem, Nat.reduceLT, Nat.reduceAdd, Nat.reduceMul, Nat.reduceEqDiff, Nat.reduceLeDiff, reduceCtorEq, ↓reduceIte, E83_1, X83_1, k83_1b, a1_h.1, b13, g16, g17, g18, w21.1, w21.2, b22]
    · replace h := br_t b22 h
      cases h
      simp -implicitDefEqProofs only [go_sem, Nat.reduceLT, Nat.reduceAdd, Nat.reduceMul, Nat.reduceEqDiff, Nat.reduceLeDiff, reduceCtorEq, ↓reduceIte, E83_1, X83_1, k83_1b, a1_h.1, b13, g16, g17, g18, w21.1, w21.2, b22]
theorem e83_1 (a0 : (List Term)) (p1 : Int) (a1 : (Term → Option Bool)) (a1_f : Nat) (a1_c : List AV) (a1_h : ((∀ S, mapO (lendPtr S) a1_c = some a1_c) ∧ (∀ n0 src R tm t c, tdL n0 src R tm t c a1_c = some a1_c)) ∧ ∀ y0 r, a1 y0 = some r → (∀ S, evCall T (evFL T) a1_f ([.agg [.ts .imm 4 (y0.ranges.map encRange), .ts .imm 2 (y0.path.map encReCell), .int .i64 y0.comm, .ts .imm 2 (y0.acts.map encAcn), .int .i64 y0.verdict]] ++ a1_c) S = some (.bool r, S)) ∧ (∀ S, evCallFz T (evFL T) a1_f ([.agg [.ts .imm 4 (y0.ranges.map encRange), .ts .imm 2 (y0.path.map encReCell), .int .i64 y0.comm, .ts .imm 2 (y0.acts.map encAcn), .int .i64 y0.verdict]] ++ a1_c) S = some (.bool r, S))) (s : Int) (o : (Unit ⊕ Int)) (h : loopP (m83_1b a0 p1 a1) s = some o) : evCL T 0 (.loop k83_1b) (E83_1 a1_f a1_c a0 p1 a1 s).1 (E83_1 a1_f a1_c a0 p1 a1 s).2 = some (X83_1 a1_f a1_c a0 p1 a1 o) :=
  loop_walk (E := E83_1 a1_f a1_c a0 p1 a1) (X := X83_1 a1_f a1_c a0 p1 a1) (by intro b; rcases b with b | b <;> (simp only [X83_1]; nofun)) (b83_1 a0 p1 a1 a1_f a1_c a1_h) s o h
theorem e83 (a0 : (List Term)) (a1 : (Term → Option Bool)) (a1_f : Nat) (a1_c : List AV) (a1_h : ((∀ S, mapO (lendPtr S) a1_c = some a1_c) ∧ (∀ n0 src R tm t c, tdL n0 src R tm t c a1_c = some a1_c)) ∧ ∀ y0 r, a1 y0 = some r → (∀ S, evCall T (evFL T) a1_f ([.agg [.ts .imm 4 (y0.ranges.map encRange), .ts .imm 2 (y0.path.map encReCell), .int .i64 y0.comm, .ts .imm 2 (y0.acts.map encAcn), .int .i64 y0.verdict]] ++ a1_c) S = some (.bool r, S)) ∧ (∀ S, evCallFz T (evFL T) a1_f ([.agg [.ts .imm 4 (y0.ranges.map encRange), .ts .imm 2 (y0.path.map encReCell), .int .i64 y0.comm, .ts .imm 2 (y0.acts.map encAcn), .int .i64 y0.verdict]] ++ a1_c) S = some (.bool r, S))) (r : Int) (h : m83 a0 a1 = some r) : evFL T 83 [.ts .imm 5 (a0.map (encTerm .imm)), .fn a1_f a1_c] [] = some (.int .i64 r, []) := by
  unfold m83 at h
  rw [evFL_at fn83 (Nat.le_of_ble_eq_true rfl) rfl (.inr rfl) ⟨rfl, rfl⟩]
  try simp -implicitDefEqProofs only [go_sem, Nat.reduceLT, Nat.reduceAdd, Nat.reduceMul, Nat.reduceEqDiff, Nat.reduceLeDiff, reduceCtorEq, ↓reduceIte, i83, c83, a1_h.1]
  obtain ⟨o, q23, h⟩ := bnd_some h
  rcases o with ⟨⟩ | v25
  · replace h := selS_l h
    have w24 := e83_1 a0 (↑a0.length : Int) a1 a1_f a1_c a1_h 0 (.inl ()) q23
    simp only [E83_1, X83_1] at w24
    try simp -implicitDefEqProofs only [go_sem] at w24
    cases h
    simp -implicitDefEqProofs only [go_sem, Nat.reduceLT, Nat.reduceAdd, Nat.reduceMul, Nat.reduceEqDiff, Nat.reduceLeDiff, reduceCtorEq, ↓reduceIte, i83, c83, a1_h.1, w24]
  · replace h := selS_r h
    have w24 := e83_1 a0 (↑a0.length : Int) a1 a1_f a1_c a1_h 0 (.inr v25) q23
    simp only [E83_1, X83_1] at w24
    try simp -implicitDefEqProofs only [go_sem] at w24
    cases h
    simp -implicitDefEqProofs only [go_sem, Nat.reduceLT, Nat.reduceAdd, Nat.reduceMul, Nat.reduceEqDiff, Nat.reduceLeDiff, reduceCtorEq, ↓reduceIte, i83, c83, a1_h.1, w24]
-- f44 slices.ContainsFunc[[]impl.Term,impl.Term]
theorem call44 (args : List AV) (S : St) : evCall T (evFL T) 44 args S = lendC (evFL T 44) S (lendAll S [[5], [0]] args) := evCall0 fn44 rfl rfl rfl args S
theorem callz44 (args : List AV) (S : St) : evCallFz T (evFL T) 44 args S = lendZ (evFL T 44) S [[0]] (lendAll S [[5], [0]] args) := evCallFz0 fn44 rfl rfl rfl args S
theorem calls44 (args : List AV) (S : St) : evCall (T.at true) (evFL T) 44 args S = lendC (evFL T 44) S (lendAll S [[5], [0]] args) := evCall0 fns44 rfl rfl rfl args S
theorem callsz44 (args : List AV) (S : St) : evCallFz (T.at true) (evFL T) 44 args S = lendZ (evFL T 44) S [[0]] (lendAll S [[5], [0]] args) := evCallFz0 fns44 rfl rfl rfl args S
attribute [go_sem] call44 callz44 calls44 callsz44
theorem e44 (a0 : (List Term)) (a1 : (Term → Option Bool)) (a1_f : Nat) (a1_c : List AV) (a1_h : ((∀ S, mapO (lendPtr S) a1_c = some a1_c) ∧ (∀ n0 src R tm t c, tdL n0 src R tm t c a1_c = some a1_c)) ∧ ∀ y0 r, a1 y0 = some r → (∀ S, evCall T (evFL T) a1_f ([.agg [.ts .imm 4 (y0.ranges.map encRange), .ts .imm 2 (y0.path.map encReCell), .int .i64 y0.comm, .ts .imm 2 (y0.acts.map encAcn), .int .i64 y0.verdict]] ++ a1_c) S = some (.bool r, S)) ∧ (∀ S, evCallFz T (evFL T) a1_f ([.agg [.ts .imm 4 (y0.ranges.map encRange), .ts .imm 2 (y0.path.map encReCell), .int .i64 y0.comm, .ts .imm 2 (y0.acts.map encAcn), .int .i64 y0.verdict]] ++ a1_c) S = some (.bool r, S))) (r : Bool) (h : m44 a0 a1 = some r) : evFL T 44 [.ts .imm 5 (a0.map (encTerm .imm)), .fn a1_f a1_c] [] = some (.bool r, []) := by
  unfold m44 at h
  rw [evFL_at fn44 (Nat.le_of_ble_eq_true rfl) rfl (.inr rfl) ⟨rfl, rfl⟩]
  obtain ⟨r3, q1, h⟩ := bnd_some h
  have w2 := e83 a0 a1 a1_f a1_c a1_h r3 q1
  try simp -implicitDefEqProofs only [go_sem] at w2
  cases h
  simp -implicitDefEqProofs only [go_sem, Nat.reduceLT, Nat.reduceAdd, Nat.reduceMul, Nat.reduceEqDiff, Nat.reduceLeDiff, reduceCtorEq, ↓reduceIte, i44, c44, a1_h.1, w2]
-- f75 impl.within
theorem call75 (args : List AV) (S : St) : evCall T (evFL T) 75 args S = lendC (evFL T 75) S (lendAll S [[0], [0], [0]] args) := evCall0 fn75 rfl rfl rfl args S
theorem callz75 (args : List AV) (S : St) : evCallFz T (evFL T) 75 args S = lendZ (evFL T 75) S [[0]] (lendAll S [[0], [0], [0]] args) := evCallFz0 fn75 rfl rfl rfl args S
theorem calls75 (args : List AV) (S : St) : evCall (T.at true) (evFL T) 75 args S = lendC (evFL T 75) S (lendAll S [[0], [0], [0]] args) := evCall0 fns75 rfl rfl rfl args S
theorem callsz75 (args : List AV) (S : St) : evCallFz (T.at true) (evFL T) 75 args S = lendZ (evFL T 75) S [[0]] (lendAll S [[0], [0], [0]] args) := evCallFz0 fns75 rfl rfl rfl args S
attribute [go_sem] call75 callz75 calls75 callsz75
noncomputable def X75_1 (a0 : Int) (a1 : Int) (a2 : Int) (o : Bool) : Ex × Fr × St :=
  (.normal, frOf 15 (upd anyF 6 (.bool o)), [])
theorem e75_1 (a0 : Int) (a1 : Int) (a2 : Int) (o : Bool) (h : m75_1 a0 a1 a2 = some o) : evCL T 0 k75_1 (frOf 15 (upd (upd (upd anyF 0 (.int .i64 a0)) 1 (.int .i64 a1)) 2 (.int .i64 a2))) [] = some (X75_1 a0 a1 a2 o) := by
  unfold m75_1 at h
  try simp -implicitDefEqProofs only [go_sem, Nat.reduceLT, Nat.reduceAdd, Nat.reduceMul, Nat.reduceEqDiff, Nat.reduceLeDiff, reduceCtorEq, ↓reduceIte, X75_1, k75_1]
  cases b1 : (leI a1 a0 : Bool)
  · replace h := br_f b1 h
    cases h
    simp -implicitDefEqProofs only [go_sem, Nat.reduceLT, Nat.reduceAdd, Nat.reduceMul, Nat.reduceEqDiff, Nat.reduceLeDiff, reduceCtorEq, ↓reduceIte, X75_1, k75_1, b1]
  · replace h := br_t b1 h
    cases h
    simp -implicitDefEqProofs only [go_sem, Nat.reduceLT, Nat.reduceAdd, Nat.reduceMul, Nat.reduceEqDiff, Nat.reduceLeDiff, reduceCtorEq, ↓reduceIte, X75_1, k75_1, b1]
theorem e75 (a0 : Int) (a1 : Int) (a2 : Int) (r : Bool) (h : m75 a0 a1 a2 = some r) : evFL T 75 [.int .i64 a0, .int .i64 a1, .int .i64 a2] [] = some (.bool r, []) := by
  unfold m75 at h
  rw [evFL_at fn75 (Nat.le_of_ble_eq_true rfl) rfl (.inr rfl) ⟨rfl, rfl⟩]
  obtain ⟨v4, q2, h⟩ := bnd_some h
  have w3 := e75_1 a0 a1 a2 v4 q2
  simp only [X75_1] at w3
  try simp -implicitDefEqProofs only [go_sem] at w3
  cases h
  simp -implicitDefEqProofs only [go_sem, Nat.reduceLT, Nat.reduceAdd, Nat.reduceMul, Nat.reduceEqDiff, Nat.reduceLeDiff, reduceCtorEq, ↓reduceIte, i75, c75, w3]
-- f144 impl.partsOf
theorem call144 (args : List AV) (S : St) : evCall T (evFL T) 144 args S = lendC (evFL T 144) S (lendAll S [[0]] args) := evCall0 fn144 rfl rfl rfl args S
theorem callz144 (args : List AV) (S : St) : evCallFz T (evFL T) 144 args S = lendZ (evFL T 144) S [[0]] (lendAll S [[0]] args) := evCallFz0 fn144 rfl rfl rfl args S
theorem calls144 (args : List AV) (S : St) : evCall (T.at true) (evFL T) 144 args S = lendC (evFL T 144) S (lendAll S [[0]] args) := evCall0 fns144 rfl rfl rfl args S
theorem callsz144 (args : List AV) (S : St) : evCallFz (T.at true) (evFL T) 144 args S = lendZ (evFL T 144) S [[0]] (lendAll S [[0]] args) := evCallFz0 fns144 rfl rfl rfl args S
attribute [go_sem] call144 callz144 calls144 callsz144
noncomputable def X144_3 (a0 : Int) (p5 : Bool) (o : Bool) : Ex × Fr × St :=
  (.normal, frOf 14 (upd (upd anyF 3 (.int .i64 a0)) 4 (.bool o)), [])
theorem e144_3 (a0 : Int) (p5 : Bool) (o : Bool) (h : m144_3 a0 p5 = some o) : evCL T 0 k144_3 (frOf 14 (upd (upd anyF 3 (.int .i64 a0)) 4 (.bool p5))) [] = some (X144_3 a0 p5 o) := by
  unfold m144_3 at h
  try simp -implicitDefEqProofs only [go_sem, Nat.reduceLT, Nat.reduceAdd, Nat.reduceMul, Nat.reduceEqDiff, Nat.reduceLeDiff, reduceCtorEq, ↓reduceIte, X144_3, k144_3]
  cases b6 : (p5 : Bool)
  · replace h := br_f b6 h
    cases h
    simp -implicitDefEqProofs only [go_sem, Nat.reduceLT, Nat.reduceAdd, Nat.reduceMul, Nat.reduceEqDiff, Nat.reduceLeDiff, reduceCtorEq, ↓reduceIte, X144_3, k144_3, b6]
  · replace h := br_t b6 h
    cases h
    simp -implicitDefEqProofs only [go_sem, Nat.reduceLT, Nat.reduceAdd, Nat.reduceMul, Nat.reduceEqDiff, Nat.reduceLeDiff, reduceCtorEq, ↓reduceIte, X144_3, k144_3, b6]
noncomputable def X144_2 (a0 : Int) (p3 : Bool) (o : Bool) : Ex × Fr × St :=
  (.normal, frOf 14 (upd (upd anyF 3 (.int .i64 a0)) 4 (.bool o)), [])
theorem e144_2 (a0 : Int) (p3 : Bool) (o : Bool) (h : m144_2 a0 p3 = some o) : evCL T 0 k144_2 (frOf 14 (upd (upd anyF 3 (.int .i64 a0)) 4 (.bool p3))) [] = some (X144_2 a0 p3 o) := by
  unfold m144_2 at h
  try simp -implicitDefEqProofs only [go_sem, Nat.reduceLT, Nat.reduceAdd, Nat.reduceMul, Nat.reduceEqDiff, Nat.reduceLeDiff, reduceCtorEq, ↓reduceIte, X144_2, k144_2]
  cases b4 : (p3 : Bool)
  · replace h := br_f b4 h
    obtain ⟨v9, q7, h⟩ := bnd_some h
    have w8 := e144_3 a0 (eqI a0 3) v9 q7
    simp only [X144_3] at w8
    try simp -implicitDefEqProofs only [go_sem] at w8
    cases h
    simp -implicitDefEqProofs only [go_sem, Nat.reduceLT, Nat.reduceAdd, Nat.reduceMul, Nat.reduceEqDiff, Nat.reduceLeDiff, reduceCtorEq, ↓reduceIte, X144_2, k144_2, b4, w8]
  · replace h := br_t b4 h
    cases h
    simp -implicitDefEqProofs only [go_sem, Nat.reduceLT, Nat.reduceAdd, Nat.reduceMul, Nat.reduceEqDiff, Nat.reduceLeDiff, reduceCtorEq, ↓reduceIte, X144_2, k144_2, b4]
noncomputable def X144_1 (a0 : Int) (p1 : Bool) (o : Bool) : Ex × Fr × St :=
  (.normal, frOf 14 (upd (upd anyF 3 (.int .i64 a0)) 4 (.bool o)), [])
theorem e144_1 (a0 : Int) (p1 : Bool) (o : Bool) (h : m144_1 a0 p1 = some o) : evCL T 0 k144_1 (frOf 14 (upd (upd anyF 3 (.int .i64 a0)) 4 (.bool p1))) [] = some (X144_1 a0 p1 o) := by
  unfold m144_1 at h
  try simp -implicitDefEqProofs only [go_sem, Nat.reduceLT, Nat.reduceAdd, Nat.reduceMul, Nat.reduceEqDiff, Nat.reduceLeDiff, reduceCtorEq, ↓reduceIte, X144_1, k144_1]
  cases b2 : (p1 : Bool)
  · replace h := br_f b2 h
    obtain ⟨v12, q10, h⟩ := bnd_some h
    have w11 := e144_2 a0 (eqI a0 2) v12 q10
    simp only [X144_2] at w11
    try simp -implicitDefEqProofs only [go_sem] at w11
    cases h
    simp -implicitDefEqProofs only [go_sem, Nat.reduceLT, Nat.reduceAdd, Nat.reduceMul, Nat.reduceEqDiff, Nat.reduceLeDiff, reduceCtorEq, ↓reduceIte, X144_1, k144_1, b2, w11]
  · replace h := br_t b2 h
    cases h
    simp -implicitDefEqProofs only [go_sem, Nat.reduceLT, Nat.reduceAdd, Nat.reduceMul, Nat.reduceEqDiff, Nat.reduceLeDiff, reduceCtorEq, ↓reduceIte, X144_1, k144_1, b2]
noncomputable def X144_4 (a0 : Int) (p18 : Bool) (o : Bool) : Ex × Fr × St :=
  (.normal, frOf 14 (upd anyF 11 (.bool o)), [])
theorem e144_4 (a0 : Int) (p18 : Bool) (o : Bool) (h : m144_4 a0 p18 = some o) : evCL T 0 k144_4 (frOf 14 (upd (upd anyF 3 (.int .i64 a0)) 11 (.bool p18))) [] = some (X144_4 a0 p18 o) := by
  unfold m144_4 at h
  try simp -implicitDefEqProofs only [go_sem, Nat.reduceLT, Nat.reduceAdd, Nat.reduceMul, Nat.reduceEqDiff, Nat.reduceLeDiff, reduceCtorEq, ↓reduceIte, X144_4, k144_4]
  cases b19 : (p18 : Bool)
  · replace h := br_f b19 h
    cases h
    simp -implicitDefEqProofs only [go_sem, Nat.reduceLT, Nat.reduceAdd, Nat.reduceMul, Nat.reduceEqDiff, Nat.reduceLeDiff, reduceCtorEq, ↓reduceIte, X144_4, k144_4, b19]
  · replace h := br_t b19 h
    cases h
    simp -implicitDefEqProofs only [go_sem, Nat.reduceLT, Nat.reduceAdd, Nat.reduceMul, Nat.reduceEqDiff, Nat.reduceLeDiff, reduceCtorEq, ↓reduceIte, X144_4, k144_4, b19]
theorem e144 (a0 : Int) (r : Int) (h : m144 a0 = some r) : evFL T 144 [.int .i64 a0] [] = some (.int .i64 r, []) := by
  unfold m144 at h
  rw [evFL_at fn144 (Nat.le_of_ble_eq_true rfl) rfl (.inr rfl) ⟨rfl, rfl⟩]
  obtain ⟨v15, q13, h⟩ := bnd_some h
  have w14 := e144_1 a0 (eqI a0 1) v15 q13
  simp only [X144_1] at w14
  try simp -implicitDefEqProofs only [go_sem] at w14
  try simp -implicitDefEqProofs only [go_sem, Nat.reduceLT, Nat.reduceAdd, Nat.reduceMul, Nat.reduceEqDiff, Nat.reduceLeDiff, reduceCtorEq, ↓reduceIte, i144, c144, w14]
  cases b16 : (v15 : Bool)
  · replace h := br_f b16 h
    try simp -implicitDefEqProofs only [go_sem, Nat.reduceLT, Nat.reduceAdd, Nat.reduceMul, Nat.reduceEqDiff, Nat.reduceLeDiff, reduceCtorEq, ↓reduceIte, i144, c144, w14, b16]
    cases b17 : (eqI a0 7 : Bool)
    · replace h := br_f b17 h
      obtain ⟨v22, q20, h⟩ := bnd_some h
      have w21 := e144_4 a0 (eqI a0 5) v22 q20
      simp only [X144_4] at w21
      try simp -implicitDefEqProofs only [go_sem] at w21
      try simp -implicitDefEqProofs only [go_sem, Nat.reduceLT, Nat.reduceAdd, Nat.reduceMul, Nat.reduceEqDiff, Nat.reduceLeDiff, reduceCtorEq, ↓reduceIte, i144, c144, w14, b16, b17, w21]
      cases b23 : (v22 : Bool)
      · replace h := br_f b23 h
        cases h
        simp -implicitDefEqProofs only [go_sem, Nat.reduceLT, Nat.reduceAdd, Nat.reduceMul, Nat.reduceEqDiff, Nat.reduceLeDiff, reduceCtorEq, ↓reduceIte, i144, c144, w14, b16, b17, w21, b23]
      · replace h := br_t b23 h
        cases h
        simp -implicitDefEqProofs only [go_sem, Nat.reduceLT, Nat.reduceAdd, Nat.reduceMul, Nat.reduceEqDiff, Nat.reduceLeDiff, reduceCtorEq, ↓reduceIte, i144, c144, w14, b16, b17, w21, b23]
    · replace h := br_t b17 h
      cases h
      simp -implicitDefEqProofs only [go_sem, Nat.reduceLT, Nat.reduceAdd, Nat.reduceMul, Nat.reduceEqDiff, Nat.reduceLeDiff, reduceCtorEq, ↓reduceIte, i144, c144, w14, b16, b17]
  · replace h := br_t b16 h
    cases h
    simp -implicitDefEqProofs only [go_sem, Nat.reduceLT, Nat.reduceAdd, Nat.reduceMul, Nat.reduceEqDiff, Nat.reduceLeDiff, reduceCtorEq, ↓reduceIte, i144, c144, w14, b16]
-- f123 impl.sizeAt
theorem call123 (args : List AV) (S : St) : evCall T (evFL T) 123 args S = lendC (evFL T 123) S (lendAll S [[2], [0]] args) := evCall0 fn123 rfl rfl rfl args S
theorem callz123 (args : List AV) (S : St) : evCallFz T (evFL T) 123 args S = lendZ (evFL T 123) S [[0]] (lendAll S [[2], [0]] args) := evCallFz0 fn123 rfl rfl rfl args S
theorem calls123 (args : List AV) (S : St) : evCall (T.at true) (evFL T) 123 args S = lendC (evFL T 123) S (lendAll S [[2], [0]] args) := evCall0 fns123 rfl rfl rfl args S
theorem callsz123 (args : List AV) (S : St) : evCallFz (T.at true) (evFL T) 123 args S = lendZ (evFL T 123) S [[0]] (lendAll S [[2], [0]] args) := evCallFz0 fns123 rfl rfl rfl args S
attribute [go_sem] call123 callz123 calls123 callsz123
noncomputable def X123_1 (a0 : (List ReCell)) (a1 : Int) (o : (Unit ⊕ Int)) : Ex × Fr × St :=
  match o with
  | .inl o => (.exit 0, frOf 33 (anyF), [])
  | .inr o => (.ret, frOf 33 (upd anyF 4 (.int .i64 o)), [])
noncomputable def E123_1 (a0 : (List ReCell)) (a1 : Int) (s : (Int × Int)) : Fr × St := (frOf 33 (upd (upd (upd (upd anyF 0 (.ts .imm 2 (a0.map encReCell))) 1 (.int .i64 a1)) 5 (.int .i64 s.1)) 6 (.int .i64 s.2)), [])
theorem b123_1 (a0 : (List ReCell)) (a1 : Int) (s : (Int × Int)) (o : Ctl (Int × Int) (Unit ⊕ Int)) (h : m123_1b a0 a1 s = some o) : evCL T 0 k123_1b (E123_1 a0 a1 s).1 (E123_1 a0 a1 s).2 = some (ctlX (E123_1 a0 a1) (X123_1 a0 a1) o) := by
  unfold m123_1b at h
  obtain ⟨s12, s13⟩ := s
  replace h := sel2_some h
  try simp -implicitDefEqProofs only [go_sem, Nat.reduceLT, Nat.reduceAdd, Nat.reduceMul, Nat.reduceEqDiff, Nat.reduceLeDiff, reduceCtorEq, ↓reduceIte, E123_1, X123_1, k123_1b]
  cases b14 : (ltI s13 (↑a0.length : Int) : Bool)
  · replace h := br_f b14 h
    cases h
    simp -implicitDefEqProofs only [go_sem, Nat.reduceLT, Nat.reduceAdd, Nat.reduceMul, Nat.reduceEqDiff, Nat.reduceLeDiff, reduceCtorEq, ↓reduceIte, E123_1, X123_1, k123_1b, b14]
  · replace h := br_t b14 h
    obtain ⟨x15, q16, h⟩ := bnd_some h
    obtain ⟨g17, g18, g19⟩ := idx_row encReCell q16
    try simp -implicitDefEqProofs only [go_sem] at g18
    try simp -implicitDefEqProofs only [go_sem] at g19
    obtain ⟨r22, q20, h⟩ := bnd_some h
    have w21 := e144 x15.kind r22 q20
    try simp -implicitDefEqProofs only [go_sem] at w21
    try simp -implicitDefEqProofs only [go_sem, Nat.reduceLT, Nat.reduceAdd, Nat.reduceMul, Nat.reduceEqDiff, Nat.reduceLeDiff, reduceCtorEq, ↓reduceIte, E123_1, X123_1, k123_1b, b14, g17, g18, g19, w21]
    cases b23 : (ltI r22 0 : Bool)
    · replace h := br_f b23 h
      try simp -implicitDefEqProofs only [go_sem, Nat.reduceLT, Nat.reduceAdd, Nat.reduceMul, Nat.reduceEqDiff, Nat.reduceLeDiff, reduceCtorEq, ↓reduceIte, E123_1, X123_1, k123_1b, b14, g17, g18, g19, w21, b23]
      cases b24 : (eqI (wadd .i64 s12 (wsub .i64 r22 1)) 0 : Bool)
      · replace h := br_f b24 h
        cases h
        simp -implicitDefEqProofs only [go_sem, Nat.reduceLT, Nat.reduceAdd, Nat.reduceMul, Nat.reduceEqDiff, Nat.reduceLeDiff, reduceCtorEq, ↓reduceIte, E123_1, X123_1, k123_1b, b14, g17, g18, g19, w21, b23, b24]
      · replace h := br_t b24 h
        cases h
        simp -implicitDefEqProofs only [go_sem, Nat.reduceLT, Nat.reduceAdd, Nat.reduceMul, Nat.reduceEqDiff, Nat.reduceLeDiff, reduceCtorEq, ↓reduceIte, E123_1, X123_1, k123_1b, b14, g17, g18, g19, w21, b23, b24]
    · replace h := br_t b23 h
      cases h
      simp -implicitDefEqProofs only [go_sem, Nat.reduceLT, Nat.reduceAdd, Nat.reduceMul, Nat.reduceEqDiff, Nat.reduceLeDiff, reduceCtorEq, ↓reduceIte, E123_1, X123_1, k123_1b, b14, g17, g18, g19, w21, b23]
theorem e123_1 (a0 : (List ReCell)) (a1 : Int) (s : (Int × Int)) (o : (Unit ⊕ Int)) (h : loopP (m123_1b a0 a1) s = some o) : evCL T 0 (.loop k123_1b) (E123_1 a0 a1 s).1 (E123_1 a0 a1 s).2 = some (X123_1 a0 a1 o) :=
  loop_walk (E := E123_1 a0 a1) (X := X123_1 a0 a1) (by intro b; rcases b with b | b <;> (simp only [X123_1]; nofun)) (b123_1 a0 a1) s o h
theorem e123 (a0 : (List ReCell)) (a1 : Int) (r : Int) (h : m123 a0 a1 = some r) : evFL T 123 [.ts .imm 2 (a0.map encReCell), .int .i64 a1] [] = some (.int .i64 r, []) := by
  unfold m123 at h
  rw [evFL_at fn123 (Nat.le_of_ble_eq_true rfl) rfl (.inr rfl) ⟨rfl, rfl⟩]
  try simp -implicitDefEqProofs only [go_sem, Nat.reduceLT, Nat.reduceAdd, Nat.reduceMul, Nat.reduceEqDiff, Nat.reduceLeDiff, reduceCtorEq, ↓reduceIte, i123, c123]
  obtain ⟨o, q25, h⟩ := bnd_some h
  rcases o with ⟨⟩ | v27
  · replace h := selS_l h
    have w26 := e123_1 a0 a1 (1, a1) (.inl ()) q25
    simp only [E123_1, X123_1] at w26
    try simp -implicitDefEqProofs only [go_sem] at w26
    cases h
    simp -implicitDefEqProofs only [go_sem, Nat.reduceLT, Nat.reduceAdd, Nat.reduceMul, Nat.reduceEqDiff, Nat.reduceLeDiff, reduceCtorEq, ↓reduceIte, i123, c123, w26]
  · replace h := selS_r h
    have w26 := e123_1 a0 a1 (1, a1) (.inr v27) q25
    simp only [E123_1, X123_1] at w26
    try simp -implicitDefEqProofs only [go_sem] at w26
    cases h
    simp -implicitDefEqProofs only [go_sem, Nat.reduceLT, Nat.reduceAdd, Nat.reduceMul, Nat.reduceEqDiff, Nat.reduceLeDiff, reduceCtorEq, ↓reduceIte, i123, c123, w26]
-- f145 slices.IndexFunc[[]impl.ReCell,impl.ReCell]
theorem call145 (args : List AV) (S : St) : evCall T (evFL T) 145 args S = lendC (evFL T 145) S (lendAll S [[2], [0]] args) := evCall0 fn145 rfl rfl rfl args S
theorem callz145 (args : List AV) (S : St) : evCallFz T (evFL T) 145 args S = lendZ (evFL T 145) S [[0]] (lendAll S [[2], [0]] args) := evCallFz0 fn145 rfl rfl rfl args S
theorem calls145 (args : List AV) (S : St) : evCall (T.at true) (evFL T) 145 args S = lendC (evFL T 145) S (lendAll S [[2], [0]] args) := evCall0 fns145 rfl rfl rfl args S
theorem callsz145 (args : List AV) (S : St) : evCallFz (T.at true) (evFL T) 145 args S = lendZ (evFL T 145) S [[0]] (lendAll S [[2], [0]] args) := evCallFz0 fns145 rfl rfl rfl args S
attribute [go_sem] call145 callz145 calls145 callsz145
noncomputable def X145_1 (a1_f : Nat) (a1_c : List AV) (a0 : (List ReCell)) (p1 : Int) (a1 : (ReCell → Option Bool)) (o : (Unit ⊕ Int)) : Ex × Fr × St :=
  match o with
  | .inl o => (.exit 0, frOf 19 (anyF), [])
  | .inr o => (.ret, frOf 19 (upd anyF 4 (.int .i64 o)), [])
noncomputable def E145_1 (a1_f : Nat) (a1_c : List AV) (a0 : (List ReCell)) (p1 : Int) (a1 : (ReCell → Option Bool)) (s : Int) : Fr × St := (frOf 19 (upd (upd (upd (upd anyF 0 (.ts .imm 2 (a0.map encReCell))) 1 (.fn a1_f a1_c)) 7 (.int .i64 p1)) 8 (.int .i64 s)), [])
theorem b145_1 (a0 : (List ReCell)) (p1 : Int) (a1 : (ReCell → Option Bool)) (a1_f : Nat) (a1_c : List AV) (a1_h : ((∀ S, mapO (lendPtr S) a1_c = some a1_c) ∧ (∀ n0 src R tm t c, tdL n0 src R tm t c a1_c = some a1_c)) ∧ ∀ y0 r, a1 y0 = some r → (∀ S, evCall T (evFL T) a1_f ([.agg [.int .i64 y0.kind, .int .i64 y0.n]] ++ a1_c) S = some (.bool r, S)) ∧ (∀ S, evCallFz T (evFL T) a1_f ([.agg [.int .i64 y0.kind, .int .i64 y0.n]] ++ a1_c) S = some (.bool r, S))) (s : Int) (o : Ctl Int (Unit ⊕ Int)) (h : m145_1b a0 p1 a1 s = some o) : evCL T 0 k145_1b (E145_1 a1_f a1_c a0 p1 a1 s).1 (E145_1 a1_f a1_c a0 p1 a1 s).2 = some (ctlX (E145_1 a1_f a1_c a0 p1 a1) (X145_1 a1_f a1_c a0 p1 a1) o) := by
  unfold m145_1b at h
  revert h
  generalize s = s12
  intro h
  try simp -implicitDefEqProofs only [go_sem, Nat.reduceLT, Nat.reduceAdd, Nat.reduceMul, Nat.reduceEqDiff, Nat.reduceLeDiff, reduceCtorEq, ↓reduceIte, E145_1, X145_1, k145_1b, a1_h.1]
  cases b13 : (ltI s12 p1 : Bool)
  · replace h := br_f b13 h
    cases h
    simp -implicitDefEqProofs only [go_sem, Nat.reduceLT, Nat.reduceAdd, Nat.reduceMul, Nat.reduceEqDiff, Nat.reduceLeDiff, reduceCtorEq, ↓reduceIte, E145_1, X145_1, k145_1b, a1_h.1, b13]
  · replace h := br_t b13 h
    obtain ⟨x14, q15, h⟩ := bnd_some h
    obtain ⟨g16, g17, g18⟩ := idx_row encReCell q15
    try simp -implicitDefEqProofs only [go_sem] at g17
    try simp -implicitDefEqProofs only [go_sem] at g18
    obtain ⟨r19, q20, h⟩ := bnd_some h
    have w21 := a1_h.2 x14 r19 q20
    try simp -implicitDefEqProofs only [go_sem] at w21
    try simp -implicitDefEqProofs only [go_sem, Nat.reduceLT, Nat.reduceAdd, Nat.reduceMul, Nat.reduceEqDiff, Nat.reduceLeDiff, reduceCtorEq, ↓reduceIte, E145_1, X145_1, k145_1b, a1_h.1, b13, g16, g17, g18, w21.1, w21.2]
    cases b22 : (r19 : Bool)
    · replace h := br_f b22 h
      cases h
      simp -implicitDefEqProofs only [go_sem, Nat.reduceLT, Nat.reduceAdd, Nat.reduceMul, Nat.reduceEqDiff, Nat.reduceLeDiff, reduceCtorEq, ↓reduceIte, E145_1, X145_1, k145_1b, a1_h.1, b13, g16, g17, g18, w21.1, w21.2, b22]
    · replace h := br_t b22 h
      cases h
      simp -implicitDefEqProofs only [go_sem, Nat.reduceLT, Nat.reduceAdd, Nat.reduceMul, Nat.reduceEqDiff, Nat.reduceLeDiff, reduceCtorEq, ↓reduceIte, E145_1, X145_1, k145_1b, a1_h.1, b13, g16, g17, g18, w21.1, w21.2, b22]
theorem e145_1 (a0 : (List ReCell)) (p1 : Int) (a1 : (ReCell → Option Bool)) (a1_f : Nat) (a1_c : List AV) (a1_h : ((∀ S, mapO (lendPtr S) a1_c = some a1_c) ∧ (∀ n0 src R tm t c, tdL n0 src R tm t c a1_c = some a1_c)) ∧ ∀ y0 r, a1 y0 = some r → (∀ S, evCall T (evFL T) a1_f ([.agg [.int .i64 y0.kind, .int .i64 y0.n]] ++ a1_c) S = some (.bool r, S)) ∧ (∀ S, evCallFz T (evFL T) a1_f ([.agg [.int .i64 y0.kind, .int .i64 y0.n]] ++ a1_c) S = some (.bool r, S))) (s : Int) (o : (Unit ⊕ Int)) (h : loopP (m145_1b a0 p1 a1) s = some o) : evCL T 0 (.loop k145_1b) (E145_1 a1_f a1_c a0 p1 a1 s).1 (E145_1 a1_f a1_c a0 p1 a1 s).2 = some (X145_1 a1_f a1_c a0 p1 a1 o) :=
  loop_walk (E := E145_1 a1_f a1_c a0 p1 a1) (X := X145_1 a1_f a1_c a0 p1 a1) (by intro b; rcases b with b | b <;> (simp only [X145_1]; nofun)) (b145_1 a0 p1 a1 a1_f a1_c a1_h) s o h
theorem e145 (a0 : (List ReCell)) (a1 : (ReCell → Option Bool)) (a1_f : Nat) (a1_c : List AV) (a1_h : ((∀ S, mapO (lendPtr S) a1_c = some a1_c) ∧ (∀ n0 src R tm t c, tdL n0 src R tm t c a1_c = some a1_c)) ∧ ∀ y0 r, a1 y0 = some r → (∀ S, evCall T (evFL T) a1_f ([.agg [.int .i64 y0.kind, .int .i64 y0.n]] ++ a1_c) S = some (.bool r, S)) ∧ (∀ S, evCallFz T (evFL T) a1_f ([.agg [.int .i64 y0.kind, .int .i64 y0.n]] ++ a1_c) S = some (.bool r, S))) (r : Int) (h : m145 a0 a1 = some r) : evFL T 145 [.ts .imm 2 (a0.map encReCell), .fn a1_f a1_c] [] = some (.int .i64 r, []) := by
  unfold m145 at h
  rw [evFL_at fn145 (Nat.le_of_ble_eq_true rfl) rfl (.inr rfl) ⟨rfl, rfl⟩]
  try simp -implicitDefEqProofs only [go_sem, Nat.reduceLT, Nat.reduceAdd, Nat.reduceMul, Nat.reduceEqDiff, Nat.reduceLeDiff, reduceCtorEq, ↓reduceIte, i145, c145, a1_h.1]
  obtain ⟨o, q23, h⟩ := bnd_some h
  rcases o with ⟨⟩ | v25
  · replace h := selS_l h
    have w24 := e145_1 a0 (↑a0.length : Int) a1 a1_f a1_c a1_h 0 (.inl ()) q23
    simp only [E145_1, X145_1] at w24
    try simp -implicitDefEqProofs only [go_sem] at w24
    cases h
    simp -implicitDefEqProofs only [go_sem, Nat.reduceLT, Nat.reduceAdd, Nat.reduceMul, Nat.reduceEqDiff, Nat.reduceLeDiff, reduceCtorEq, ↓reduceIte, i145, c145, a1_h.1, w24]
  · replace h := selS_r h
    have w24 := e145_1 a0 (↑a0.length : Int) a1 a1_f a1_c a1_h 0 (.inr v25) q23
    simp only [E145_1, X145_1] at w24
    try simp -implicitDefEqProofs only [go_sem] at w24
    cases h
    simp -implicitDefEqProofs only [go_sem, Nat.reduceLT, Nat.reduceAdd, Nat.reduceMul, Nat.reduceEqDiff, Nat.reduceLeDiff, reduceCtorEq, ↓reduceIte, i145, c145, a1_h.1, w24]
-- f124 slices.ContainsFunc[[]impl.ReCell,impl.ReCell]
theorem call124 (args : List AV) (S : St) : evCall T (evFL T) 124 args S = lendC (evFL T 124) S (lendAll S [[2], [0]] args) := evCall0 fn124 rfl rfl rfl args S
theorem callz124 (args : List AV) (S : St) : evCallFz T (evFL T) 124 args S = lendZ (evFL T 124) S [[0]] (lendAll S [[2], [0]] args) := evCallFz0 fn124 rfl rfl rfl args S
theorem calls124 (args : List AV) (S : St) : evCall (T.at true) (evFL T) 124 args S = lendC (evFL T 124) S (lendAll S [[2], [0]] args) := evCall0 fns124 rfl rfl rfl args S
theorem callsz124 (args : List AV) (S : St) : evCallFz (T.at true) (evFL T) 124 args S = lendZ (evFL T 124) S [[0]] (lendAll S [[2], [0]] args) := evCallFz0 fns124 rfl rfl rfl args S
attribute [go_sem] call124 callz124 calls124 callsz124
theorem e124 (a0 : (List ReCell)) (a1 : (ReCell → Option Bool)) (a1_f : Nat) (a1_c : List AV) (a1_h : ((∀ S, mapO (lendPtr S) a1_c = some a1_c) ∧ (∀ n0 src R tm t c, tdL n0 src R tm t c a1_c = some a1_c)) ∧ ∀ y0 r, a1 y0 = some r → (∀ S, evCall T (evFL T) a1_f ([.agg [.int .i64 y0.kind, .int .i64 y0.n]] ++ a1_c) S = some (.bool r, S)) ∧ (∀ S, evCallFz T (evFL T) a1_f ([.agg [.int .i64 y0.kind, .int .i64 y0.n]] ++ a1_c) S = some (.bool r, S))) (r : Bool) (h : m124 a0 a1 = some r) : evFL T 124 [.ts .imm 2 (a0.map encReCell), .fn a1_f a1_c] [] = some (.bool r, []) := by
  unfold m124 at h
  rw [evFL_at fn124 (Nat.le_of_ble_eq_true rfl) rfl (.inr rfl) ⟨rfl, rfl⟩]
  obtain ⟨r3, q1, h⟩ := bnd_some h
  have w2 := e145 a0 a1 a1_f a1_c a1_h r3 q1
  try simp -implicitDefEqProofs only [go_sem] at w2
  cases h
  simp -implicitDefEqProofs only [go_sem, Nat.reduceLT, Nat.reduceAdd, Nat.reduceMul, Nat.reduceEqDiff, Nat.reduceLeDiff, reduceCtorEq, ↓reduceIte, i124, c124, a1_h.1, w2]
-- f91 impl.isAsn
theorem call91 (args : List AV) (S : St) : evCall T (evFL T) 91 args S = lendC (evFL T 91) S (lendAll S [[0]] args) := evCall0 fn91 rfl rfl rfl args S
theorem callz91 (args : List AV) (S : St) : evCallFz T (evFL T) 91 args S = lendZ (evFL T 91) S [[0]] (lendAll S [[0]] args) := evCallFz0 fn91 rfl rfl rfl args S
theorem calls91 (args : List AV) (S : St) : evCall (T.at true) (evFL T) 91 args S = lendC (evFL T 91) S (lendAll S [[0]] args) := evCall0 fns91 rfl rfl rfl args S
theorem callsz91 (args : List AV) (S : St) : evCallFz (T.at true) (evFL T) 91 args S = lendZ (evFL T 91) S [[0]] (lendAll S [[0]] args) := evCallFz0 fns91 rfl rfl rfl args S
attribute [go_sem] call91 callz91 calls91 callsz91
theorem e91 (a0 : Int) (r : Bool) (h : m91 a0 = some r) : evFL T 91 [.int .i64 a0] [] = some (.bool r, []) := by
  unfold m91 at h
  rw [evFL_at fn91 (Nat.le_of_ble_eq_true rfl) rfl (.inr rfl) ⟨rfl, rfl⟩]
  obtain ⟨r3, q1, h⟩ := bnd_some h
  have w2 := e75 a0 1 65535 r3 q1
  try simp -implicitDefEqProofs only [go_sem] at w2
  cases h
  simp -implicitDefEqProofs only [go_sem, Nat.reduceLT, Nat.reduceAdd, Nat.reduceMul, Nat.reduceEqDiff, Nat.reduceLeDiff, reduceCtorEq, ↓reduceIte, i91, c91, w2]
end Go.Pi.Ythidbgihjhkjaaa.ThenPolicy
