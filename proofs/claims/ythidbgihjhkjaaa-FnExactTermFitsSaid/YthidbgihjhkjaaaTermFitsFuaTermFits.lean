/- no condition -/
import Derived.Test.YthidbgihjhkjaaaTermFitsTabTermFits
import Derived.Test.YthidbgihjhkjaaaTermFitsModTermFits
set_option linter.all false
namespace Go.Pi.Ythidbgihjhkjaaa.TermFits
open Go Go.Proofs Go.Pi
set_option maxRecDepth 100000
set_option linter.all false
@[go_sem] noncomputable def encInt (x : Int) : List AV := [.int .i64 x]
theorem sq_encInt (q : Ql) (x : Int) : setQL q (encInt x) = encInt x := by simp [encInt]
theorem sqm_encInt (q : Ql) (xs : List Int) : setQLL q (xs.map encInt) = xs.map encInt := by rw [setQLL_map]; exact List.map_congr_left (fun x _ => sq_encInt q x)
theorem ow_encInt (x : Int) : ownOnlyL (encInt x) = true := by simp [encInt, ownOnlyL, ownOnly, ownLL_map]
theorem owm_encInt (xs : List Int) : ownOnlyLL (xs.map encInt) = true := ownLL_map _ ow_encInt xs
theorem fi_encInt (x : Int) : fine.fineL (encInt x) = true := by simp [encInt, fine.fineL, fine, fineLL_map]
theorem fim_encInt (xs : List Int) : fine.fineLL (xs.map encInt) = true := fineLL_map _ fi_encInt xs
theorem nu_encInt (x : Int) : nude.nudeL (encInt x) = true := by simp [encInt, nude.nudeL, nude, nudeLL_map]
theorem num_encInt (xs : List Int) : nude.nudeLL (xs.map encInt) = true := nudeLL_map _ nu_encInt xs
theorem st_encInt (q : Ql) (xs : List Int) : (xs.map encInt).map (fun x => x.map (setTop q)) = xs.map encInt := by rw [List.map_map]; rfl
attribute [go_sem] st_encInt
attribute [simp] sqm_encInt ow_encInt owm_encInt fi_encInt fim_encInt nu_encInt num_encInt
attribute [go_sem] sqm_encInt owm_encInt fim_encInt num_encInt
@[go_sem] noncomputable def encPrefix (x : Prefix) : List AV := [.int .i64 x.addr, .int .i64 x.len]
theorem sq_encPrefix (q : Ql) (x : Prefix) : setQL q (encPrefix x) = encPrefix x := by simp [encPrefix]
theorem sqm_encPrefix (q : Ql) (xs : List Prefix) : setQLL q (xs.map encPrefix) = xs.map encPrefix := by rw [setQLL_map]; exact List.map_congr_left (fun x _ => sq_encPrefix q x)
theorem ow_encPrefix (x : Prefix) : ownOnlyL (encPrefix x) = true := by simp [encPrefix, ownOnlyL, ownOnly, ownLL_map]
theorem owm_encPrefix (xs : List Prefix) : ownOnlyLL (xs.map encPrefix) = true := ownLL_map _ ow_encPrefix xs
theorem fi_encPrefix (x : Prefix) : fine.fineL (encPrefix x) = true := by simp [encPrefix, fine.fineL, fine, fineLL_map]
theorem fim_encPrefix (xs : List Prefix) : fine.fineLL (xs.map encPrefix) = true := fineLL_map _ fi_encPrefix xs
theorem nu_encPrefix (x : Prefix) : nude.nudeL (encPrefix x) = true := by simp [encPrefix, nude.nudeL, nude, nudeLL_map]
theorem num_encPrefix (xs : List Prefix) : nude.nudeLL (xs.map encPrefix) = true := nudeLL_map _ nu_encPrefix xs
theorem st_encPrefix (q : Ql) (xs : List Prefix) : (xs.map encPrefix).map (fun x => x.map (setTop q)) = xs.map encPrefix := by rw [List.map_map]; rfl
attribute [go_sem] st_encPrefix
attribute [simp] sqm_encPrefix ow_encPrefix owm_encPrefix fi_encPrefix fim_encPrefix nu_encPrefix num_encPrefix
attribute [go_sem] sqm_encPrefix owm_encPrefix fim_encPrefix num_encPrefix
@[go_sem] noncomputable def encRange (x : Range) : List AV := [.int .i64 x.prefix_.addr, .int .i64 x.prefix_.len, .int .i64 x.lo, .int .i64 x.hi]
theorem sq_encRange (q : Ql) (x : Range) : setQL q (encRange x) = encRange x := by simp [encRange]
theorem sqm_encRange (q : Ql) (xs : List Range) : setQLL q (xs.map encRange) = xs.map encRange := by rw [setQLL_map]; exact List.map_congr_left (fun x _ => sq_encRange q x)
theorem ow_encRange (x : Range) : ownOnlyL (encRange x) = true := by simp [encRange, ownOnlyL, ownOnly, ownLL_map]
theorem owm_encRange (xs : List Range) : ownOnlyLL (xs.map encRange) = true := ownLL_map _ ow_encRange xs
theorem fi_encRange (x : Range) : fine.fineL (encRange x) = true := by simp [encRange, fine.fineL, fine, fineLL_map]
theorem fim_encRange (xs : List Range) : fine.fineLL (xs.map encRange) = true := fineLL_map _ fi_encRange xs
theorem nu_encRange (x : Range) : nude.nudeL (encRange x) = true := by simp [encRange, nude.nudeL, nude, nudeLL_map]
theorem num_encRange (xs : List Range) : nude.nudeLL (xs.map encRange) = true := nudeLL_map _ nu_encRange xs
theorem st_encRange (q : Ql) (xs : List Range) : (xs.map encRange).map (fun x => x.map (setTop q)) = xs.map encRange := by rw [List.map_map]; rfl
attribute [go_sem] st_encRange
attribute [simp] sqm_encRange ow_encRange owm_encRange fi_encRange fim_encRange nu_encRange num_encRange
attribute [go_sem] sqm_encRange owm_encRange fim_encRange num_encRange
@[go_sem] noncomputable def encLRange (q : Ql) (x : (List Range)) : List AV := [.ts q 4 (x.map encRange)]
theorem sq_encLRange (q q1 : Ql) (x : (List Range)) : setQL q (encLRange q1 x) = encLRange q x := by simp [encLRange, sq_encRange]
theorem sqm_encLRange (q q1 : Ql) (xs : List (List Range)) : setQLL q (xs.map (encLRange q1)) = xs.map (encLRange q) := by rw [setQLL_map]; exact List.map_congr_left (fun x _ => sq_encLRange q q1 x)
theorem ow_encLRange (x : (List Range)) : ownOnlyL (encLRange .own x) = true := by simp [encLRange, ownOnlyL, ownOnly, ownLL_map]
theorem owm_encLRange (xs : List (List Range)) : ownOnlyLL (xs.map (encLRange .own)) = true := ownLL_map _ ow_encLRange xs
theorem fi_encLRange (x : (List Range)) : fine.fineL (encLRange .own x) = true := by simp [encLRange, fine.fineL, fine, fineLL_map]
theorem fim_encLRange (xs : List (List Range)) : fine.fineLL (xs.map (encLRange .own)) = true := fineLL_map _ fi_encLRange xs
theorem nu_encLRange (x : (List Range)) : nude.nudeL (encLRange .own x) = true := by simp [encLRange, nude.nudeL, nude, nudeLL_map]
theorem num_encLRange (xs : List (List Range)) : nude.nudeLL (xs.map (encLRange .own)) = true := nudeLL_map _ nu_encLRange xs
theorem st_encLRange (q q1 : Ql) (xs : List (List Range)) : (xs.map (encLRange q1)).map (fun x => x.map (setTop q)) = xs.map (encLRange q) := by rw [List.map_map]; rfl
theorem fii_encLRange (xs : List (List Range)) : fine.fineLL (xs.map (encLRange .imm)) = true := fineLL_map _ (fun x => by simp [encLRange, fine.fineL, fine]) xs
attribute [go_sem] fii_encLRange
attribute [go_sem] st_encLRange
attribute [simp] sqm_encLRange ow_encLRange owm_encLRange fi_encLRange fim_encLRange nu_encLRange num_encLRange
attribute [go_sem] sqm_encLRange owm_encLRange fim_encLRange num_encLRange
@[go_sem] noncomputable def encReCell (x : ReCell) : List AV := [.int .i64 x.kind, .int .i64 x.n]
theorem sq_encReCell (q : Ql) (x : ReCell) : setQL q (encReCell x) = encReCell x := by simp [encReCell]
theorem sqm_encReCell (q : Ql) (xs : List ReCell) : setQLL q (xs.map encReCell) = xs.map encReCell := by rw [setQLL_map]; exact List.map_congr_left (fun x _ => sq_encReCell q x)
theorem ow_encReCell (x : ReCell) : ownOnlyL (encReCell x) = true := by simp [encReCell, ownOnlyL, ownOnly, ownLL_map]
theorem owm_encReCell (xs : List ReCell) : ownOnlyLL (xs.map encReCell) = true := ownLL_map _ ow_encReCell xs
theorem fi_encReCell (x : ReCell) : fine.fineL (encReCell x) = true := by simp [encReCell, fine.fineL, fine, fineLL_map]
theorem fim_encReCell (xs : List ReCell) : fine.fineLL (xs.map encReCell) = true := fineLL_map _ fi_encReCell xs
theorem nu_encReCell (x : ReCell) : nude.nudeL (encReCell x) = true := by simp [encReCell, nude.nudeL, nude, nudeLL_map]
theorem num_encReCell (xs : List ReCell) : nude.nudeLL (xs.map encReCell) = true := nudeLL_map _ nu_encReCell xs
theorem st_encReCell (q : Ql) (xs : List ReCell) : (xs.map encReCell).map (fun x => x.map (setTop q)) = xs.map encReCell := by rw [List.map_map]; rfl
attribute [go_sem] st_encReCell
attribute [simp] sqm_encReCell ow_encReCell owm_encReCell fi_encReCell fim_encReCell nu_encReCell num_encReCell
attribute [go_sem] sqm_encReCell owm_encReCell fim_encReCell num_encReCell
@[go_sem] noncomputable def encLReCell (q : Ql) (x : (List ReCell)) : List AV := [.ts q 2 (x.map encReCell)]
theorem sq_encLReCell (q q1 : Ql) (x : (List ReCell)) : setQL q (encLReCell q1 x) = encLReCell q x := by simp [encLReCell, sq_encReCell]
theorem sqm_encLReCell (q q1 : Ql) (xs : List (List ReCell)) : setQLL q (xs.map (encLReCell q1)) = xs.map (encLReCell q) := by rw [setQLL_map]; exact List.map_congr_left (fun x _ => sq_encLReCell q q1 x)
theorem ow_encLReCell (x : (List ReCell)) : ownOnlyL (encLReCell .own x) = true := by simp [encLReCell, ownOnlyL, ownOnly, ownLL_map]
theorem owm_encLReCell (xs : List (List ReCell)) : ownOnlyLL (xs.map (encLReCell .own)) = true := ownLL_map _ ow_encLReCell xs
theorem fi_encLReCell (x : (List ReCell)) : fine.fineL (encLReCell .own x) = true := by simp [encLReCell, fine.fineL, fine, fineLL_map]
theorem fim_encLReCell (xs : List (List ReCell)) : fine.fineLL (xs.map (encLReCell .own)) = true := fineLL_map _ fi_encLReCell xs
theorem nu_encLReCell (x : (List ReCell)) : nude.nudeL (encLReCell .own x) = true := by simp [encLReCell, nude.nudeL, nude, nudeLL_map]
theorem num_encLReCell (xs : List (List ReCell)) : nude.nudeLL (xs.map (encLReCell .own)) = true := nudeLL_map _ nu_encLReCell xs
theorem st_encLReCell (q q1 : Ql) (xs : List (List ReCell)) : (xs.map (encLReCell q1)).map (fun x => x.map (setTop q)) = xs.map (encLReCell q) := by rw [List.map_map]; rfl
theorem fii_encLReCell (xs : List (List ReCell)) : fine.fineLL (xs.map (encLReCell .imm)) = true := fineLL_map _ (fun x => by simp [encLReCell, fine.fineL, fine]) xs
attribute [go_sem] fii_encLReCell
attribute [go_sem] st_encLReCell
attribute [simp] sqm_encLReCell ow_encLReCell owm_encLReCell fi_encLReCell fim_encLReCell nu_encLReCell num_encLReCell
attribute [go_sem] sqm_encLReCell owm_encLReCell fim_encLReCell num_encLReCell
@[go_sem] noncomputable def encAcn (x : Acn) : List AV := [.int .i64 x.kind, .int .i64 x.n]
theorem sq_encAcn (q : Ql) (x : Acn) : setQL q (encAcn x) = encAcn x := by simp [encAcn]
theorem sqm_encAcn (q : Ql) (xs : List Acn) : setQLL q (xs.map encAcn) = xs.map encAcn := by rw [setQLL_map]; exact List.map_congr_left (fun x _ => sq_encAcn q x)
theorem ow_encAcn (x : Acn) : ownOnlyL (encAcn x) = true := by simp [encAcn, ownOnlyL, ownOnly, ownLL_map]
theorem owm_encAcn (xs : List Acn) : ownOnlyLL (xs.map encAcn) = true := ownLL_map _ ow_encAcn xs
theorem fi_encAcn (x : Acn) : fine.fineL (encAcn x) = true := by simp [encAcn, fine.fineL, fine, fineLL_map]
theorem fim_encAcn (xs : List Acn) : fine.fineLL (xs.map encAcn) = true := fineLL_map _ fi_encAcn xs
theorem nu_encAcn (x : Acn) : nude.nudeL (encAcn x) = true := by simp [encAcn, nude.nudeL, nude, nudeLL_map]
theorem num_encAcn (xs : List Acn) : nude.nudeLL (xs.map encAcn) = true := nudeLL_map _ nu_encAcn xs
theorem st_encAcn (q : Ql) (xs : List Acn) : (xs.map encAcn).map (fun x => x.map (setTop q)) = xs.map encAcn := by rw [List.map_map]; rfl
attribute [go_sem] st_encAcn
attribute [simp] sqm_encAcn ow_encAcn owm_encAcn fi_encAcn fim_encAcn nu_encAcn num_encAcn
attribute [go_sem] sqm_encAcn owm_encAcn fim_encAcn num_encAcn
@[go_sem] noncomputable def encLAcn (q : Ql) (x : (List Acn)) : List AV := [.ts q 2 (x.map encAcn)]
theorem sq_encLAcn (q q1 : Ql) (x : (List Acn)) : setQL q (encLAcn q1 x) = encLAcn q x := by simp [encLAcn, sq_encAcn]
theorem sqm_encLAcn (q q1 : Ql) (xs : List (List Acn)) : setQLL q (xs.map (encLAcn q1)) = xs.map (encLAcn q) := by rw [setQLL_map]; exact List.map_congr_left (fun x _ => sq_encLAcn q q1 x)
theorem ow_encLAcn (x : (List Acn)) : ownOnlyL (encLAcn .own x) = true := by simp [encLAcn, ownOnlyL, ownOnly, ownLL_map]
theorem owm_encLAcn (xs : List (List Acn)) : ownOnlyLL (xs.map (encLAcn .own)) = true := ownLL_map _ ow_encLAcn xs
theorem fi_encLAcn (x : (List Acn)) : fine.fineL (encLAcn .own x) = true := by simp [encLAcn, fine.fineL, fine, fineLL_map]
theorem fim_encLAcn (xs : List (List Acn)) : fine.fineLL (xs.map (encLAcn .own)) = true := fineLL_map _ fi_encLAcn xs
theorem nu_encLAcn (x : (List Acn)) : nude.nudeL (encLAcn .own x) = true := by simp [encLAcn, nude.nudeL, nude, nudeLL_map]
theorem num_encLAcn (xs : List (List Acn)) : nude.nudeLL (xs.map (encLAcn .own)) = true := nudeLL_map _ nu_encLAcn xs
theorem st_encLAcn (q q1 : Ql) (xs : List (List Acn)) : (xs.map (encLAcn q1)).map (fun x => x.map (setTop q)) = xs.map (encLAcn q) := by rw [List.map_map]; rfl
theorem fii_encLAcn (xs : List (List Acn)) : fine.fineLL (xs.map (encLAcn .imm)) = true := fineLL_map _ (fun x => by simp [encLAcn, fine.fineL, fine]) xs
attribute [go_sem] fii_encLAcn
attribute [go_sem] st_encLAcn
attribute [simp] sqm_encLAcn ow_encLAcn owm_encLAcn fi_encLAcn fim_encLAcn nu_encLAcn num_encLAcn
attribute [go_sem] sqm_encLAcn owm_encLAcn fim_encLAcn num_encLAcn
@[go_sem] noncomputable def encTerm (q : Ql) (x : Term) : List AV := [.ts q 4 (x.ranges.map encRange), .ts q 2 (x.path.map encReCell), .int .i64 x.comm, .ts q 2 (x.acts.map encAcn), .int .i64 x.verdict]
theorem sq_encTerm (q q1 : Ql) (x : Term) : setQL q (encTerm q1 x) = encTerm q x := by simp [encTerm, sq_encRange, sq_encReCell, sq_encAcn]
theorem sqm_encTerm (q q1 : Ql) (xs : List Term) : setQLL q (xs.map (encTerm q1)) = xs.map (encTerm q) := by rw [setQLL_map]; exact List.map_congr_left (fun x _ => sq_encTerm q q1 x)
theorem ow_encTerm (x : Term) : ownOnlyL (encTerm .own x) = true := by simp [encTerm, ownOnlyL, ownOnly, ownLL_map]
theorem owm_encTerm (xs : List Term) : ownOnlyLL (xs.map (encTerm .own)) = true := ownLL_map _ ow_encTerm xs
theorem fi_encTerm (x : Term) : fine.fineL (encTerm .own x) = true := by simp [encTerm, fine.fineL, fine, fineLL_map]
theorem fim_encTerm (xs : List Term) : fine.fineLL (xs.map (encTerm .own)) = true := fineLL_map _ fi_encTerm xs
theorem nu_encTerm (x : Term) : nude.nudeL (encTerm .own x) = true := by simp [encTerm, nude.nudeL, nude, nudeLL_map]
theorem num_encTerm (xs : List Term) : nude.nudeLL (xs.map (encTerm .own)) = true := nudeLL_map _ nu_encTerm xs
theorem st_encTerm (q q1 : Ql) (xs : List Term) : (xs.map (encTerm q1)).map (fun x => x.map (setTop q)) = xs.map (encTerm q) := by rw [List.map_map]; rfl
theorem fii_encTerm (xs : List Term) : fine.fineLL (xs.map (encTerm .imm)) = true := fineLL_map _ (fun x => by simp [encTerm, fine.fineL, fine]) xs
attribute [go_sem] fii_encTerm
attribute [go_sem] st_encTerm
attribute [simp] sqm_encTerm ow_encTerm owm_encTerm fi_encTerm fim_encTerm nu_encTerm num_encTerm
attribute [go_sem] sqm_encTerm owm_encTerm fim_encTerm num_encTerm
@[go_sem] noncomputable def encLInt (q : Ql) (x : (List Int)) : List AV := [.ts q 1 (x.map encInt)]
theorem sq_encLInt (q q1 : Ql) (x : (List Int)) : setQL q (encLInt q1 x) = encLInt q x := by simp [encLInt, sq_encInt]
theorem sqm_encLInt (q q1 : Ql) (xs : List (List Int)) : setQLL q (xs.map (encLInt q1)) = xs.map (encLInt q) := by rw [setQLL_map]; exact List.map_congr_left (fun x _ => sq_encLInt q q1 x)
theorem ow_encLInt (x : (List Int)) : ownOnlyL (encLInt .own x) = true := by simp [encLInt, ownOnlyL, ownOnly, ownLL_map]
theorem owm_encLInt (xs : List (List Int)) : ownOnlyLL (xs.map (encLInt .own)) = true := ownLL_map _ ow_encLInt xs
theorem fi_encLInt (x : (List Int)) : fine.fineL (encLInt .own x) = true := by simp [encLInt, fine.fineL, fine, fineLL_map]
theorem fim_encLInt (xs : List (List Int)) : fine.fineLL (xs.map (encLInt .own)) = true := fineLL_map _ fi_encLInt xs
theorem nu_encLInt (x : (List Int)) : nude.nudeL (encLInt .own x) = true := by simp [encLInt, nude.nudeL, nude, nudeLL_map]
theorem num_encLInt (xs : List (List Int)) : nude.nudeLL (xs.map (encLInt .own)) = true := nudeLL_map _ nu_encLInt xs
theorem st_encLInt (q q1 : Ql) (xs : List (List Int)) : (xs.map (encLInt q1)).map (fun x => x.map (setTop q)) = xs.map (encLInt q) := by rw [List.map_map]; rfl
theorem fii_encLInt (xs : List (List Int)) : fine.fineLL (xs.map (encLInt .imm)) = true := fineLL_map _ (fun x => by simp [encLInt, fine.fineL, fine]) xs
attribute [go_sem] fii_encLInt
attribute [go_sem] st_encLInt
attribute [simp] sqm_encLInt ow_encLInt owm_encLInt fi_encLInt fim_encLInt nu_encLInt num_encLInt
attribute [go_sem] sqm_encLInt owm_encLInt fim_encLInt num_encLInt
@[go_sem] noncomputable def encAttrs (q : Ql) (x : Attrs) : List AV := [.int .i64 x.origin, .ts q 1 (x.path.map encInt), .int .i64 x.next, .int .i64 x.med, .int .i64 x.pref, .ts q 1 (x.comms.map encInt)]
theorem sq_encAttrs (q q1 : Ql) (x : Attrs) : setQL q (encAttrs q1 x) = encAttrs q x := by simp [encAttrs, sq_encInt, sq_encInt]
theorem sqm_encAttrs (q q1 : Ql) (xs : List Attrs) : setQLL q (xs.map (encAttrs q1)) = xs.map (encAttrs q) := by rw [setQLL_map]; exact List.map_congr_left (fun x _ => sq_encAttrs q q1 x)
theorem ow_encAttrs (x : Attrs) : ownOnlyL (encAttrs .own x) = true := by simp [encAttrs, ownOnlyL, ownOnly, ownLL_map]
theorem owm_encAttrs (xs : List Attrs) : ownOnlyLL (xs.map (encAttrs .own)) = true := ownLL_map _ ow_encAttrs xs
theorem fi_encAttrs (x : Attrs) : fine.fineL (encAttrs .own x) = true := by simp [encAttrs, fine.fineL, fine, fineLL_map]
theorem fim_encAttrs (xs : List Attrs) : fine.fineLL (xs.map (encAttrs .own)) = true := fineLL_map _ fi_encAttrs xs
theorem nu_encAttrs (x : Attrs) : nude.nudeL (encAttrs .own x) = true := by simp [encAttrs, nude.nudeL, nude, nudeLL_map]
theorem num_encAttrs (xs : List Attrs) : nude.nudeLL (xs.map (encAttrs .own)) = true := nudeLL_map _ nu_encAttrs xs
theorem st_encAttrs (q q1 : Ql) (xs : List Attrs) : (xs.map (encAttrs q1)).map (fun x => x.map (setTop q)) = xs.map (encAttrs q) := by rw [List.map_map]; rfl
theorem fii_encAttrs (xs : List Attrs) : fine.fineLL (xs.map (encAttrs .imm)) = true := fineLL_map _ (fun x => by simp [encAttrs, fine.fineL, fine]) xs
attribute [go_sem] fii_encAttrs
attribute [go_sem] st_encAttrs
attribute [simp] sqm_encAttrs ow_encAttrs owm_encAttrs fi_encAttrs fim_encAttrs nu_encAttrs num_encAttrs
attribute [go_sem] sqm_encAttrs owm_encAttrs fim_encAttrs num_encAttrs
@[go_sem] noncomputable def encRoute (q : Ql) (x : Route) : List AV := [.int .i64 x.prefix_.addr, .int .i64 x.prefix_.len, .int .i64 x.attrs.origin, .ts q 1 (x.attrs.path.map encInt), .int .i64 x.attrs.next, .int .i64 x.attrs.med, .int .i64 x.attrs.pref, .ts q 1 (x.attrs.comms.map encInt)]
theorem sq_encRoute (q q1 : Ql) (x : Route) : setQL q (encRoute q1 x) = encRoute q x := by simp [encRoute, sq_encInt, sq_encInt]
theorem sqm_encRoute (q q1 : Ql) (xs : List Route) : setQLL q (xs.map (encRoute q1)) = xs.map (encRoute q) := by rw [setQLL_map]; exact List.map_congr_left (fun x _ => sq_encRoute q q1 x)
theorem ow_encRoute (x : Route) : ownOnlyL (encRoute .own x) = true := by simp [encRoute, ownOnlyL, ownOnly, ownLL_map]
theorem owm_encRoute (xs : List Route) : ownOnlyLL (xs.map (encRoute .own)) = true := ownLL_map _ ow_encRoute xs
theorem fi_encRoute (x : Route) : fine.fineL (encRoute .own x) = true := by simp [encRoute, fine.fineL, fine, fineLL_map]
theorem fim_encRoute (xs : List Route) : fine.fineLL (xs.map (encRoute .own)) = true := fineLL_map _ fi_encRoute xs
theorem nu_encRoute (x : Route) : nude.nudeL (encRoute .own x) = true := by simp [encRoute, nude.nudeL, nude, nudeLL_map]
theorem num_encRoute (xs : List Route) : nude.nudeLL (xs.map (encRoute .own)) = true := nudeLL_map _ nu_encRoute xs
theorem st_encRoute (q q1 : Ql) (xs : List Route) : (xs.map (encRoute q1)).map (fun x => x.map (setTop q)) = xs.map (encRoute q) := by rw [List.map_map]; rfl
theorem fii_encRoute (xs : List Route) : fine.fineLL (xs.map (encRoute .imm)) = true := fineLL_map _ (fun x => by simp [encRoute, fine.fineL, fine]) xs
attribute [go_sem] fii_encRoute
attribute [go_sem] st_encRoute
attribute [simp] sqm_encRoute ow_encRoute owm_encRoute fi_encRoute fim_encRoute nu_encRoute num_encRoute
attribute [go_sem] sqm_encRoute owm_encRoute fim_encRoute num_encRoute
@[go_sem] noncomputable def encBool (x : Bool) : List AV := [.bool x]
theorem sq_encBool (q : Ql) (x : Bool) : setQL q (encBool x) = encBool x := by simp [encBool]
theorem sqm_encBool (q : Ql) (xs : List Bool) : setQLL q (xs.map encBool) = xs.map encBool := by rw [setQLL_map]; exact List.map_congr_left (fun x _ => sq_encBool q x)
theorem ow_encBool (x : Bool) : ownOnlyL (encBool x) = true := by simp [encBool, ownOnlyL, ownOnly, ownLL_map]
theorem owm_encBool (xs : List Bool) : ownOnlyLL (xs.map encBool) = true := ownLL_map _ ow_encBool xs
theorem fi_encBool (x : Bool) : fine.fineL (encBool x) = true := by simp [encBool, fine.fineL, fine, fineLL_map]
theorem fim_encBool (xs : List Bool) : fine.fineLL (xs.map encBool) = true := fineLL_map _ fi_encBool xs
theorem nu_encBool (x : Bool) : nude.nudeL (encBool x) = true := by simp [encBool, nude.nudeL, nude, nudeLL_map]
theorem num_encBool (xs : List Bool) : nude.nudeLL (xs.map encBool) = true := nudeLL_map _ nu_encBool xs
theorem st_encBool (q : Ql) (xs : List Bool) : (xs.map encBool).map (fun x => x.map (setTop q)) = xs.map encBool := by rw [List.map_map]; rfl
attribute [go_sem] st_encBool
attribute [simp] sqm_encBool ow_encBool owm_encBool fi_encBool fim_encBool nu_encBool num_encBool
attribute [go_sem] sqm_encBool owm_encBool fim_encBool num_encBool
noncomputable def encl6T (q : Ql) (x : l6T) : List AV := l6T.rec (motive_1 := fun _ => List AV) (motive_2 := fun _ => List (List AV)) (fun kind_ n_ kids_ h_kids_ => [AV.int .i64 kind_, AV.int .i64 n_, AV.ts q 3 h_kids_]) [] (fun _ _ h1 h2 => h1 :: h2) x
theorem encml6T (q : Ql) (xs : List l6T) : l6T.rec_1 (motive_1 := fun _ => List AV) (motive_2 := fun _ => List (List AV)) (fun kind_ n_ kids_ h_kids_ => [AV.int .i64 kind_, AV.int .i64 n_, AV.ts q 3 h_kids_]) [] (fun _ _ h1 h2 => h1 :: h2) xs = xs.map (encl6T q) := by
 induction xs with
 | nil => rfl
 | cons x r ih => rw [List.map_cons, ← ih]; rfl
theorem encel6T (q : Ql) (kind_ : Int) (n_ : Int) (kids_ : (List l6T)) : encl6T q (.mk kind_ n_ kids_) = [AV.int .i64 kind_, AV.int .i64 n_, AV.ts q 3 (kids_.map (encl6T q))] := by
 show [AV.int .i64 kind_, AV.int .i64 n_, AV.ts q 3 (l6T.rec_1 (motive_1 := fun _ => List AV) (motive_2 := fun _ => List (List AV)) (fun kind_ n_ kids_ h_kids_ => [AV.int .i64 kind_, AV.int .i64 n_, AV.ts q 3 h_kids_]) [] (fun _ _ h1 h2 => h1 :: h2) kids_)] = _
 rw [encml6T]
theorem encxl6T (q : Ql) (x : l6T) : encl6T q x = [AV.int .i64 x.kind_, AV.int .i64 x.n_, AV.ts q 3 (x.kids_.map (encl6T q))] := by cases x; exact encel6T q _ _ _
theorem l6T.kind__mk (kind_ : Int) (n_ : Int) (kids_ : (List l6T)) : (l6T.mk kind_ n_ kids_).kind_ = kind_ := rfl
theorem l6T.n__mk (kind_ : Int) (n_ : Int) (kids_ : (List l6T)) : (l6T.mk kind_ n_ kids_).n_ = n_ := rfl
theorem l6T.kids__mk (kind_ : Int) (n_ : Int) (kids_ : (List l6T)) : (l6T.mk kind_ n_ kids_).kids_ = kids_ := rfl
attribute [go_sem] encxl6T l6T.kind__mk l6T.n__mk l6T.kids__mk
theorem sq_encl6T' : ∀ x : l6T, ∀ q q1 : Ql, setQL q (encl6T q1 x) = encl6T q x := by
 intro x
 refine l6T.rec (motive_1 := fun x => ∀ q q1 : Ql, setQL q (encl6T q1 x) = encl6T q x) (motive_2 := fun x => ∀ q q1 : Ql, setQLL q (x.map (encl6T q1)) = x.map (encl6T q)) ?_ ?_ ?_ x
 · intro kind_ n_ kids_ h_kids_; intro q q1; rw [encel6T, encel6T]; simp [h_kids_]
 · intro q q1; rfl
 · intro x r h1 h2; intro q q1; rw [List.map_cons, List.map_cons, gll_cons, h1, h2]
theorem sq_encl6T (q q1 : Ql) (x : l6T) : setQL q (encl6T q1 x) = encl6T q x := sq_encl6T' x q q1
theorem sqm_encl6T (q q1 : Ql) (xs : List l6T) : setQLL q (xs.map (encl6T q1)) = xs.map (encl6T q) := by rw [setQLL_map]; exact List.map_congr_left (fun x _ => sq_encl6T q q1 x)
theorem ow_encl6T : ∀ x : l6T, ownOnlyL (encl6T .own x) = true := by
 intro x
 refine l6T.rec (motive_1 := fun x => ownOnlyL (encl6T .own x) = true) (motive_2 := fun x => ownOnlyLL (x.map (encl6T .own)) = true) ?_ ?_ ?_ x
 · intro kind_ n_ kids_ h_kids_; rw [encel6T]; simp [ownOnlyL, ownOnly, h_kids_]
 · rfl
 · intro x r h1 h2; rw [List.map_cons]; simp [ownOnlyLL, h1, h2]
theorem owm_encl6T (xs : List l6T) : ownOnlyLL (xs.map (encl6T .own)) = true := ownLL_map _ ow_encl6T xs
theorem fi_encl6T : ∀ x : l6T, fine.fineL (encl6T .own x) = true := by
 intro x
 refine l6T.rec (motive_1 := fun x => fine.fineL (encl6T .own x) = true) (motive_2 := fun x => fine.fineLL (x.map (encl6T .own)) = true) ?_ ?_ ?_ x
 · intro kind_ n_ kids_ h_kids_; rw [encel6T]; simp [fine.fineL, fine, h_kids_]
 · rfl
 · intro x r h1 h2; rw [List.map_cons]; simp [fine.fineLL, h1, h2]
theorem fim_encl6T (xs : List l6T) : fine.fineLL (xs.map (encl6T .own)) = true := fineLL_map _ fi_encl6T xs
theorem nu_encl6T : ∀ x : l6T, nude.nudeL (encl6T .own x) = true := by
 intro x
 refine l6T.rec (motive_1 := fun x => nude.nudeL (encl6T .own x) = true) (motive_2 := fun x => nude.nudeLL (x.map (encl6T .own)) = true) ?_ ?_ ?_ x
 · intro kind_ n_ kids_ h_kids_; rw [encel6T]; simp [nude.nudeL, nude, h_kids_]
 · rfl
 · intro x r h1 h2; rw [List.map_cons]; simp [nude.nudeLL, h1, h2]
theorem num_encl6T (xs : List l6T) : nude.nudeLL (xs.map (encl6T .own)) = true := nudeLL_map _ nu_encl6T xs
attribute [simp] sqm_encl6T ow_encl6T owm_encl6T fi_encl6T fim_encl6T nu_encl6T num_encl6T
theorem fii_encl6T (xs : List l6T) : fine.fineLL (xs.map (encl6T .imm)) = true := fineLL_map _ (fun x => by rw [encxl6T]; simp [fine.fineL, fine]) xs
attribute [go_sem] sqm_encl6T owm_encl6T fim_encl6T num_encl6T fii_encl6T
@[go_sem] noncomputable def encLl6T (q : Ql) (x : (List l6T)) : List AV := [.ts q 3 (x.map (encl6T q))]
theorem sq_encLl6T (q q1 : Ql) (x : (List l6T)) : setQL q (encLl6T q1 x) = encLl6T q x := by simp [encLl6T, sq_encl6T]
theorem sqm_encLl6T (q q1 : Ql) (xs : List (List l6T)) : setQLL q (xs.map (encLl6T q1)) = xs.map (encLl6T q) := by rw [setQLL_map]; exact List.map_congr_left (fun x _ => sq_encLl6T q q1 x)
theorem ow_encLl6T (x : (List l6T)) : ownOnlyL (encLl6T .own x) = true := by simp [encLl6T, ownOnlyL, ownOnly, ownLL_map]
theorem owm_encLl6T (xs : List (List l6T)) : ownOnlyLL (xs.map (encLl6T .own)) = true := ownLL_map _ ow_encLl6T xs
theorem fi_encLl6T (x : (List l6T)) : fine.fineL (encLl6T .own x) = true := by simp [encLl6T, fine.fineL, fine, fineLL_map]
theorem fim_encLl6T (xs : List (List l6T)) : fine.fineLL (xs.map (encLl6T .own)) = true := fineLL_map _ fi_encLl6T xs
theorem nu_encLl6T (x : (List l6T)) : nude.nudeL (encLl6T .own x) = true := by simp [encLl6T, nude.nudeL, nude, nudeLL_map]
theorem num_encLl6T (xs : List (List l6T)) : nude.nudeLL (xs.map (encLl6T .own)) = true := nudeLL_map _ nu_encLl6T xs
theorem fii_encLl6T (xs : List (List l6T)) : fine.fineLL (xs.map (encLl6T .imm)) = true := fineLL_map _ (fun x => by simp [encLl6T, fine.fineL, fine]) xs
attribute [go_sem] fii_encLl6T
attribute [simp] sqm_encLl6T ow_encLl6T owm_encLl6T fi_encLl6T fim_encLl6T nu_encLl6T num_encLl6T
attribute [go_sem] sqm_encLl6T owm_encLl6T fim_encLl6T num_encLl6T
noncomputable def encpattern (q : Ql) (x : pattern) : List AV := pattern.rec (motive_1 := fun _ => List AV) (motive_2 := fun _ => List (List AV)) (fun cell parts h_parts => [AV.int .i64 cell.kind, AV.int .i64 cell.n, AV.ts q 1 h_parts]) [] (fun _ _ h1 h2 => [AV.tp q 3 [h1] 0 0] :: h2) x
noncomputable def encPpattern (q : Ql) (x : pattern) : List AV := [.tp q 3 [encpattern q x] 0 0]
theorem encmpattern (q : Ql) (xs : List pattern) : pattern.rec_1 (motive_1 := fun _ => List AV) (motive_2 := fun _ => List (List AV)) (fun cell parts h_parts => [AV.int .i64 cell.kind, AV.int .i64 cell.n, AV.ts q 1 h_parts]) [] (fun _ _ h1 h2 => [AV.tp q 3 [h1] 0 0] :: h2) xs = xs.map (encPpattern q) := by
 induction xs with
 | nil => rfl
 | cons x r ih => rw [List.map_cons, ← ih]; rfl
theorem encxpattern (q : Ql) (x : pattern) : encpattern q x = [AV.int .i64 x.cell.kind, AV.int .i64 x.cell.n, AV.ts q 1 (x.parts.map (encPpattern q))] := by
 cases x with
 | mk cell parts => show [AV.int .i64 cell.kind, AV.int .i64 cell.n, AV.ts q 1 (pattern.rec_1 (motive_1 := fun _ => List AV) (motive_2 := fun _ => List (List AV)) (fun cell parts h_parts => [AV.int .i64 cell.kind, AV.int .i64 cell.n, AV.ts q 1 h_parts]) [] (fun _ _ h1 h2 => [AV.tp q 3 [h1] 0 0] :: h2) parts)] = _; rw [encmpattern]; rfl
theorem pattern.cell_mk (cell : ReCell) (parts : (List pattern)) : (pattern.mk cell parts).cell = cell := rfl
theorem pattern.parts_mk (cell : ReCell) (parts : (List pattern)) : (pattern.mk cell parts).parts = parts := rfl
attribute [go_sem] encxpattern pattern.cell_mk pattern.parts_mk
theorem sq_encpattern' : ∀ x : pattern, ∀ q q1 : Ql, setQL q (encpattern q1 x) = encpattern q x := by
 intro x
 refine pattern.rec (motive_1 := fun x => ∀ q q1 : Ql, setQL q (encpattern q1 x) = encpattern q x) (motive_2 := fun xs => ∀ q q1 : Ql, setQLL q (xs.map (encPpattern q1)) = xs.map (encPpattern q)) ?_ ?_ ?_ x
 · intro cell parts h_parts q q1; rw [encxpattern, encxpattern]; simp [h_parts, pattern.cell_mk, pattern.parts_mk]
 · intro q q1; rfl
 · intro x r h1 h2 q q1; rw [List.map_cons, List.map_cons, gll_cons, h2]; congr 1; simp only [encPpattern]; rw [setQL_cons, setQ_tp', gll_cons, h1]; rfl
theorem sq_encpattern (q q1 : Ql) (x : pattern) : setQL q (encpattern q1 x) = encpattern q x := sq_encpattern' x q q1
theorem sq1_encpattern (q q1 : Ql) (x : pattern) : setQLL q [encpattern q1 x] = [encpattern q x] := by rw [gll_cons, sq_encpattern]; rfl
attribute [go_sem] sq_encpattern sq1_encpattern
attribute [go_sem] encPpattern
theorem sq_encPpattern (q q1 : Ql) (x : pattern) : setQL q (encPpattern q1 x) = encPpattern q x := by simp only [encPpattern]; rw [setQL_cons, setQ_tp', gll_cons, sq_encpattern]; rfl
theorem sqm_encPpattern (q q1 : Ql) (xs : List pattern) : setQLL q (xs.map (encPpattern q1)) = xs.map (encPpattern q) := by rw [setQLL_map]; exact List.map_congr_left (fun x _ => sq_encPpattern q q1 x)
theorem fii_encPpattern (xs : List pattern) : fine.fineLL (xs.map (encPpattern .imm)) = true := fineLL_map _ (fun x => by simp [encPpattern, fine.fineL, fine]) xs
attribute [simp] sqm_encPpattern
attribute [go_sem] sqm_encPpattern fii_encPpattern
@[go_sem] noncomputable def encLPpattern (q : Ql) (x : (List pattern)) : List AV := [.ts q 1 (x.map (encPpattern q))]
theorem sq_encLPpattern (q q1 : Ql) (x : (List pattern)) : setQL q (encLPpattern q1 x) = encLPpattern q x := by simp [encLPpattern, sq_encPpattern]
theorem sqm_encLPpattern (q q1 : Ql) (xs : List (List pattern)) : setQLL q (xs.map (encLPpattern q1)) = xs.map (encLPpattern q) := by rw [setQLL_map]; exact List.map_congr_left (fun x _ => sq_encLPpattern q q1 x)
attribute [simp] sqm_encLPpattern
attribute [go_sem] sqm_encLPpattern
theorem call59 (args : List AV) (S : St) : evCall T (evFL T) 59 args S = lendC (evFL T 59) S (lendAll S [[4], [0]] args) := evCall0 fn59 rfl rfl rfl args S
theorem callz59 (args : List AV) (S : St) : evCallFz T (evFL T) 59 args S = lendZ (evFL T 59) S [[0]] (lendAll S [[4], [0]] args) := evCallFz0 fn59 rfl rfl rfl args S
attribute [go_sem] call59 callz59
theorem e59 (a0 : (List Range)) (a1 : Int) (r : Int) (h : m59 a0 a1 = some r) : evFL T 59 [.ts .imm 4 (a0.map encRange), .int .i64 a1] [] = some (.int .i64 r, []) := by
 unfold m59 at h
 rw [evFL_at fn59 (Nat.le_of_ble_eq_true rfl) rfl (.inr rfl) ⟨rfl, rfl⟩]
 try simp -implicitDefEqProofs only [go_sem, i59, c59]
 cases b1 : (ltI (wsub .i64 a1 (↑a0.length : Int)) 0 : Bool)
 · replace h := br_f b1 h
   cases h
   simp -implicitDefEqProofs only [go_sem, i59, c59, b1]
 · replace h := br_t b1 h
   cases h
   simp -implicitDefEqProofs only [go_sem, i59, c59, b1]
theorem call60 (args : List AV) (S : St) : evCall T (evFL T) 60 args S = lendC (evFL T 60) S (lendAll S [[2], [0]] args) := evCall0 fn60 rfl rfl rfl args S
theorem callz60 (args : List AV) (S : St) : evCallFz T (evFL T) 60 args S = lendZ (evFL T 60) S [[0]] (lendAll S [[2], [0]] args) := evCallFz0 fn60 rfl rfl rfl args S
attribute [go_sem] call60 callz60
theorem e60 (a0 : (List ReCell)) (a1 : Int) (r : Int) (h : m60 a0 a1 = some r) : evFL T 60 [.ts .imm 2 (a0.map encReCell), .int .i64 a1] [] = some (.int .i64 r, []) := by
 unfold m60 at h
 rw [evFL_at fn60 (Nat.le_of_ble_eq_true rfl) rfl (.inr rfl) ⟨rfl, rfl⟩]
 try simp -implicitDefEqProofs only [go_sem, i60, c60]
 cases b1 : (ltI (wsub .i64 a1 (↑a0.length : Int)) 0 : Bool)
 · replace h := br_f b1 h
   cases h
   simp -implicitDefEqProofs only [go_sem, i60, c60, b1]
 · replace h := br_t b1 h
   cases h
   simp -implicitDefEqProofs only [go_sem, i60, c60, b1]
theorem call61 (args : List AV) (S : St) : evCall T (evFL T) 61 args S = lendC (evFL T 61) S (lendAll S [[2], [0]] args) := evCall0 fn61 rfl rfl rfl args S
theorem callz61 (args : List AV) (S : St) : evCallFz T (evFL T) 61 args S = lendZ (evFL T 61) S [[0]] (lendAll S [[2], [0]] args) := evCallFz0 fn61 rfl rfl rfl args S
attribute [go_sem] call61 callz61
theorem e61 (a0 : (List Acn)) (a1 : Int) (r : Int) (h : m61 a0 a1 = some r) : evFL T 61 [.ts .imm 2 (a0.map encAcn), .int .i64 a1] [] = some (.int .i64 r, []) := by
 unfold m61 at h
 rw [evFL_at fn61 (Nat.le_of_ble_eq_true rfl) rfl (.inr rfl) ⟨rfl, rfl⟩]
 try simp -implicitDefEqProofs only [go_sem, i61, c61]
 cases b1 : (ltI (wsub .i64 a1 (↑a0.length : Int)) 0 : Bool)
 · replace h := br_f b1 h
   cases h
   simp -implicitDefEqProofs only [go_sem, i61, c61, b1]
 · replace h := br_t b1 h
   cases h
   simp -implicitDefEqProofs only [go_sem, i61, c61, b1]
theorem call27 (args : List AV) (S : St) : evCall T (evFL T) 27 args S = lendC (evFL T 27) S (lendAll S [[4, 2, 0, 2, 0], [0]] args) := evCall0 fn27 rfl rfl rfl args S
theorem callz27 (args : List AV) (S : St) : evCallFz T (evFL T) 27 args S = lendZ (evFL T 27) S [[0]] (lendAll S [[4, 2, 0, 2, 0], [0]] args) := evCallFz0 fn27 rfl rfl rfl args S
attribute [go_sem] call27 callz27
theorem e27 (a0 : Term) (a1 : Int) (r : Int) (h : m27 a0 a1 = some r) : evFL T 27 [.agg [.ts .imm 4 (a0.ranges.map encRange), .ts .imm 2 (a0.path.map encReCell), .int .i64 a0.comm, .ts .imm 2 (a0.acts.map encAcn), .int .i64 a0.verdict], .int .i64 a1] [] = some (.int .i64 r, []) := by
 unfold m27 at h
 rw [evFL_at fn27 (Nat.le_of_ble_eq_true rfl) rfl (.inr rfl) ⟨rfl, rfl⟩]
 obtain ⟨r3, q1, h⟩ := bnd_some h
 have w2 := e59 a0.ranges a1 r3 q1
 try simp -implicitDefEqProofs only [go_sem] at w2
 try simp -implicitDefEqProofs only [go_sem, i27, c27, w2]
 cases b4 : (ltI r3 0 : Bool)
 · replace h := br_f b4 h
   obtain ⟨r7, q5, h⟩ := bnd_some h
   have w6 := e60 a0.path r3 r7 q5
   try simp -implicitDefEqProofs only [go_sem] at w6
   try simp -implicitDefEqProofs only [go_sem, i27, c27, w2, b4, w6]
   cases b8 : (ltI r7 0 : Bool)
   · replace h := br_f b8 h
     obtain ⟨r11, q9, h⟩ := bnd_some h
     have w10 := e61 a0.acts r7 r11 q9
     try simp -implicitDefEqProofs only [go_sem] at w10
     try simp -implicitDefEqProofs only [go_sem, i27, c27, w2, b4, w6, b8, w10]
     cases b12 : (ltI r11 0 : Bool)
     · replace h := br_f b12 h
       cases h
       simp -implicitDefEqProofs only [go_sem, i27, c27, w2, b4, w6, b8, w10, b12]
     · replace h := br_t b12 h
       cases h
       simp -implicitDefEqProofs only [go_sem, i27, c27, w2, b4, w6, b8, w10, b12]
   · replace h := br_t b8 h
     cases h
     simp -implicitDefEqProofs only [go_sem, i27, c27, w2, b4, w6, b8]
 · replace h := br_t b4 h
   cases h
   simp -implicitDefEqProofs only [go_sem, i27, c27, w2, b4]
theorem call70 (args : List AV) (S : St) : evCall T (evFL T) 70 args S = lendC (evFL T 70) S (lendAll S [[1], [0]] args) := evCall0 fn70 rfl rfl rfl args S
theorem callz70 (args : List AV) (S : St) : evCallFz T (evFL T) 70 args S = lendZ (evFL T 70) S [[0]] (lendAll S [[1], [0]] args) := evCallFz0 fn70 rfl rfl rfl args S
attribute [go_sem] call70 callz70
theorem e70 (a0 : (List Int)) (a1 : Int) (r : Int) (h : m70 a0 a1 = some r) : evFL T 70 [.ts .imm 1 (a0.map encInt), .int .i64 a1] [] = some (.int .i64 r, []) := by
 unfold m70 at h
 rw [evFL_at fn70 (Nat.le_of_ble_eq_true rfl) rfl (.inr rfl) ⟨rfl, rfl⟩]
 try simp -implicitDefEqProofs only [go_sem, i70, c70]
 cases b1 : (ltI (wsub .i64 a1 (↑a0.length : Int)) 0 : Bool)
 · replace h := br_f b1 h
   cases h
   simp -implicitDefEqProofs only [go_sem, i70, c70, b1]
 · replace h := br_t b1 h
   cases h
   simp -implicitDefEqProofs only [go_sem, i70, c70, b1]
theorem call32 (args : List AV) (S : St) : evCall T (evFL T) 32 args S = lendC (evFL T 32) S (lendAll S [[0, 1, 0, 0, 0, 1], [0]] args) := evCall0 fn32 rfl rfl rfl args S
theorem callz32 (args : List AV) (S : St) : evCallFz T (evFL T) 32 args S = lendZ (evFL T 32) S [[0]] (lendAll S [[0, 1, 0, 0, 0, 1], [0]] args) := evCallFz0 fn32 rfl rfl rfl args S
attribute [go_sem] call32 callz32
theorem e32 (a0 : Attrs) (a1 : Int) (r : Int) (h : m32 a0 a1 = some r) : evFL T 32 [.agg [.int .i64 a0.origin, .ts .imm 1 (a0.path.map encInt), .int .i64 a0.next, .int .i64 a0.med, .int .i64 a0.pref, .ts .imm 1 (a0.comms.map encInt)], .int .i64 a1] [] = some (.int .i64 r, []) := by
 unfold m32 at h
 rw [evFL_at fn32 (Nat.le_of_ble_eq_true rfl) rfl (.inr rfl) ⟨rfl, rfl⟩]
 obtain ⟨r3, q1, h⟩ := bnd_some h
 have w2 := e70 a0.path a1 r3 q1
 try simp -implicitDefEqProofs only [go_sem] at w2
 try simp -implicitDefEqProofs only [go_sem, i32, c32, w2]
 cases b4 : (ltI r3 0 : Bool)
 · replace h := br_f b4 h
   obtain ⟨r7, q5, h⟩ := bnd_some h
   have w6 := e70 a0.comms r3 r7 q5
   try simp -implicitDefEqProofs only [go_sem] at w6
   try simp -implicitDefEqProofs only [go_sem, i32, c32, w2, b4, w6]
   cases b8 : (ltI r7 0 : Bool)
   · replace h := br_f b8 h
     cases h
     simp -implicitDefEqProofs only [go_sem, i32, c32, w2, b4, w6, b8]
   · replace h := br_t b8 h
     cases h
     simp -implicitDefEqProofs only [go_sem, i32, c32, w2, b4, w6, b8]
 · replace h := br_t b4 h
   cases h
   simp -implicitDefEqProofs only [go_sem, i32, c32, w2, b4]
theorem call8 (args : List AV) (S : St) : evCall T (evFL T) 8 args S = lendC (evFL T 8) S (lendAll S [[0, 0, 0, 1, 0, 0, 0, 1], [0]] args) := evCall0 fn8 rfl rfl rfl args S
theorem callz8 (args : List AV) (S : St) : evCallFz T (evFL T) 8 args S = lendZ (evFL T 8) S [[0]] (lendAll S [[0, 0, 0, 1, 0, 0, 0, 1], [0]] args) := evCallFz0 fn8 rfl rfl rfl args S
attribute [go_sem] call8 callz8
theorem e8 (a0 : Route) (a1 : Int) (r : Int) (h : m8 a0 a1 = some r) : evFL T 8 [.agg [.int .i64 a0.prefix_.addr, .int .i64 a0.prefix_.len, .int .i64 a0.attrs.origin, .ts .imm 1 (a0.attrs.path.map encInt), .int .i64 a0.attrs.next, .int .i64 a0.attrs.med, .int .i64 a0.attrs.pref, .ts .imm 1 (a0.attrs.comms.map encInt)], .int .i64 a1] [] = some (.int .i64 r, []) := by
 unfold m8 at h
 rw [evFL_at fn8 (Nat.le_of_ble_eq_true rfl) rfl (.inr rfl) ⟨rfl, rfl⟩]
 obtain ⟨r3, q1, h⟩ := bnd_some h
 have w2 := e32 a0.attrs a1 r3 q1
 try simp -implicitDefEqProofs only [go_sem] at w2
 try simp -implicitDefEqProofs only [go_sem, i8, c8, w2]
 cases b4 : (ltI r3 0 : Bool)
 · replace h := br_f b4 h
   cases h
   simp -implicitDefEqProofs only [go_sem, i8, c8, w2, b4]
 · replace h := br_t b4 h
   cases h
   simp -implicitDefEqProofs only [go_sem, i8, c8, w2, b4]
theorem call35 (args : List AV) (S : St) : evCall T (evFL T) 35 args S = lendC (evFL T 35) S (lendAll S [[0, 0]] args) := evCall0 fn35 rfl rfl rfl args S
theorem callz35 (args : List AV) (S : St) : evCallFz T (evFL T) 35 args S = lendZ (evFL T 35) S [[0, 0]] (lendAll S [[0, 0]] args) := evCallFz0 fn35 rfl rfl rfl args S
attribute [go_sem] call35 callz35
theorem e35 (a0 : Prefix) (r : Prefix) (h : m35 a0 = some r) : evFL T 35 [.agg [.int .i64 a0.addr, .int .i64 a0.len]] [] = some (.agg [.int .i64 r.addr, .int .i64 r.len], []) := by
 unfold m35 at h
 rw [evFL_at fn35 (Nat.le_of_ble_eq_true rfl) rfl (.inr rfl) ⟨rfl, rfl⟩]
 cases h
 simp -implicitDefEqProofs only [go_sem, i35, c35]
theorem call111 (args : List AV) (S : St) : evCall T (evFL T) 111 args S = lendC (evFL T 111) S (lendAll S [[0, 0, 0, 0]] args) := evCall0 fn111 rfl rfl rfl args S
theorem callz111 (args : List AV) (S : St) : evCallFz T (evFL T) 111 args S = lendZ (evFL T 111) S [[0, 0, 0, 0]] (lendAll S [[0, 0, 0, 0]] args) := evCallFz0 fn111 rfl rfl rfl args S
attribute [go_sem] call111 callz111
theorem e111 (a0 : Range) (r : Range) (h : m111 a0 = some r) : evFL T 111 [.agg [.int .i64 a0.prefix_.addr, .int .i64 a0.prefix_.len, .int .i64 a0.lo, .int .i64 a0.hi]] [] = some (.agg [.int .i64 r.prefix_.addr, .int .i64 r.prefix_.len, .int .i64 r.lo, .int .i64 r.hi], []) := by
 unfold m111 at h
 rw [evFL_at fn111 (Nat.le_of_ble_eq_true rfl) rfl (.inr rfl) ⟨rfl, rfl⟩]
 obtain ⟨r3, q1, h⟩ := bnd_some h
 have w2 := e35 a0.prefix_ r3 q1
 try simp -implicitDefEqProofs only [go_sem] at w2
 cases h
 simp -implicitDefEqProofs only [go_sem, i111, c111, w2]
theorem call63 (args : List AV) (S : St) : evCall T (evFL T) 63 args S = lendC (evFL T 63) S (lendAll S [[4]] args) := evCall0 fn63 rfl rfl rfl args S
theorem callz63 (args : List AV) (S : St) : evCallFz T (evFL T) 63 args S = lendZ (evFL T 63) S [[4]] (lendAll S [[4]] args) := evCallFz0 fn63 rfl rfl rfl args S
attribute [go_sem] call63 callz63
noncomputable def X63_1 (a0 : (List Range)) (o : (List Range)) : Ex × Fr × St :=
 (.exit 0, frOf 23 (upd anyF 3 (.sl 0 0 o.length)), [some ⟨.arr, 4, o.map encRange⟩])
noncomputable def E63_1 (a0 : (List Range)) (s : (Int × List Range)) : Fr × St := (frOf 23 (upd (upd (upd anyF 0 (.ts .imm 4 (a0.map encRange))) 3 (.sl 0 0 s.2.length)) 4 (.int .i64 s.1)), [some ⟨.arr, 4, s.2.map encRange⟩])
theorem b63_1 (a0 : (List Range)) (s : (Int × List Range)) (o : Ctl (Int × List Range) (List Range)) (h : m63_1b a0 s = some o) : evCL T 0 k63_1b (E63_1 a0 s).1 (E63_1 a0 s).2 = some (ctlX (E63_1 a0) (X63_1 a0) o) := by
 unfold m63_1b at h
 obtain ⟨s17, s18⟩ := s
 replace h := sel2_some h
 try simp -implicitDefEqProofs only [go_sem, E63_1, X63_1, k63_1b]
 cases b19 : (ltI s17 (↑a0.length : Int) : Bool)
 · replace h := br_f b19 h
   cases h
   simp -implicitDefEqProofs only [go_sem, E63_1, X63_1, k63_1b, b19]
 · replace h := br_t b19 h
   obtain ⟨x20, q21, h⟩ := bnd_some h
   obtain ⟨g22, g23, g24⟩ := idx_row encRange q21
   try simp -implicitDefEqProofs only [go_sem] at g23
   try simp -implicitDefEqProofs only [go_sem] at g24
   obtain ⟨r27, q25, h⟩ := bnd_some h
   have w26 := e111 x20 r27 q25
   try simp -implicitDefEqProofs only [go_sem] at w26
   obtain ⟨x28, q29, h⟩ := bnd_some h
   obtain ⟨g30, g31, g32⟩ := idx_row encRange q29
   try simp -implicitDefEqProofs only [go_sem] at g31
   try simp -implicitDefEqProofs only [go_sem] at g32
   cases h
   simp -implicitDefEqProofs only [go_sem, E63_1, X63_1, k63_1b, b19, g22, g23, g24, w26, g30, g31, g32]
theorem e63_1 (a0 : (List Range)) (s : (Int × List Range)) (o : (List Range)) (h : loopP (m63_1b a0) s = some o) : evCL T 0 (.loop k63_1b) (E63_1 a0 s).1 (E63_1 a0 s).2 = some (X63_1 a0 o) :=
 loop_walk (E := E63_1 a0) (X := X63_1 a0) (by intro b; (simp only [X63_1]; nofun)) (b63_1 a0) s o h
theorem e63 (a0 : (List Range)) (r : (List Range)) (h : m63 a0 = some r) : evFL T 63 [.ts .imm 4 (a0.map encRange)] [] = some (.sl 0 0 r.length, [some ⟨.arr, 4, r.map encRange⟩]) := by
 unfold m63 at h
 rw [evFL_at fn63 (Nat.le_of_ble_eq_true rfl) rfl (.inr rfl) ⟨rfl, rfl⟩]
 obtain ⟨g1, h⟩ := ck_some h
 try simp -implicitDefEqProofs only [go_sem] at g1
 obtain ⟨v35, q33, h⟩ := bnd_some h
 have w34 := e63_1 a0 (0, List.replicate a0.length (⟨(⟨0, 0⟩ : Prefix), 0, 0⟩ : Range)) v35 q33
 simp only [E63_1, X63_1] at w34
 try simp -implicitDefEqProofs only [go_sem] at w34
 cases h
 simp -implicitDefEqProofs only [go_sem, i63, c63, g1, w34]
theorem call112 (args : List AV) (S : St) : evCall T (evFL T) 112 args S = lendC (evFL T 112) S (lendAll S [[0, 0]] args) := evCall0 fn112 rfl rfl rfl args S
theorem callz112 (args : List AV) (S : St) : evCallFz T (evFL T) 112 args S = lendZ (evFL T 112) S [[0, 0]] (lendAll S [[0, 0]] args) := evCallFz0 fn112 rfl rfl rfl args S
attribute [go_sem] call112 callz112
theorem e112 (a0 : ReCell) (r : ReCell) (h : m112 a0 = some r) : evFL T 112 [.agg [.int .i64 a0.kind, .int .i64 a0.n]] [] = some (.agg [.int .i64 r.kind, .int .i64 r.n], []) := by
 unfold m112 at h
 rw [evFL_at fn112 (Nat.le_of_ble_eq_true rfl) rfl (.inr rfl) ⟨rfl, rfl⟩]
 cases h
 simp -implicitDefEqProofs only [go_sem, i112, c112]
theorem call64 (args : List AV) (S : St) : evCall T (evFL T) 64 args S = lendC (evFL T 64) S (lendAll S [[2]] args) := evCall0 fn64 rfl rfl rfl args S
theorem callz64 (args : List AV) (S : St) : evCallFz T (evFL T) 64 args S = lendZ (evFL T 64) S [[2]] (lendAll S [[2]] args) := evCallFz0 fn64 rfl rfl rfl args S
attribute [go_sem] call64 callz64
noncomputable def X64_1 (a0 : (List ReCell)) (o : (List ReCell)) : Ex × Fr × St :=
 (.exit 0, frOf 23 (upd anyF 3 (.sl 0 0 o.length)), [some ⟨.arr, 2, o.map encReCell⟩])
noncomputable def E64_1 (a0 : (List ReCell)) (s : (Int × List ReCell)) : Fr × St := (frOf 23 (upd (upd (upd anyF 0 (.ts .imm 2 (a0.map encReCell))) 3 (.sl 0 0 s.2.length)) 4 (.int .i64 s.1)), [some ⟨.arr, 2, s.2.map encReCell⟩])
theorem b64_1 (a0 : (List ReCell)) (s : (Int × List ReCell)) (o : Ctl (Int × List ReCell) (List ReCell)) (h : m64_1b a0 s = some o) : evCL T 0 k64_1b (E64_1 a0 s).1 (E64_1 a0 s).2 = some (ctlX (E64_1 a0) (X64_1 a0) o) := by
 unfold m64_1b at h
 obtain ⟨s17, s18⟩ := s
 replace h := sel2_some h
 try simp -implicitDefEqProofs only [go_sem, E64_1, X64_1, k64_1b]
 cases b19 : (ltI s17 (↑a0.length : Int) : Bool)
 · replace h := br_f b19 h
   cases h
   simp -implicitDefEqProofs only [go_sem, E64_1, X64_1, k64_1b, b19]
 · replace h := br_t b19 h
   obtain ⟨x20, q21, h⟩ := bnd_some h
   obtain ⟨g22, g23, g24⟩ := idx_row encReCell q21
   try simp -implicitDefEqProofs only [go_sem] at g23
   try simp -implicitDefEqProofs only [go_sem] at g24
   obtain ⟨r27, q25, h⟩ := bnd_some h
   have w26 := e112 x20 r27 q25
   try simp -implicitDefEqProofs only [go_sem] at w26
   obtain ⟨x28, q29, h⟩ := bnd_some h
   obtain ⟨g30, g31, g32⟩ := idx_row encReCell q29
   try simp -implicitDefEqProofs only [go_sem] at g31
   try simp -implicitDefEqProofs only [go_sem] at g32
   cases h
   simp -implicitDefEqProofs only [go_sem, E64_1, X64_1, k64_1b, b19, g22, g23, g24, w26, g30, g31, g32]
theorem e64_1 (a0 : (List ReCell)) (s : (Int × List ReCell)) (o : (List ReCell)) (h : loopP (m64_1b a0) s = some o) : evCL T 0 (.loop k64_1b) (E64_1 a0 s).1 (E64_1 a0 s).2 = some (X64_1 a0 o) :=
 loop_walk (E := E64_1 a0) (X := X64_1 a0) (by intro b; (simp only [X64_1]; nofun)) (b64_1 a0) s o h
theorem e64 (a0 : (List ReCell)) (r : (List ReCell)) (h : m64 a0 = some r) : evFL T 64 [.ts .imm 2 (a0.map encReCell)] [] = some (.sl 0 0 r.length, [some ⟨.arr, 2, r.map encReCell⟩]) := by
 unfold m64 at h
 rw [evFL_at fn64 (Nat.le_of_ble_eq_true rfl) rfl (.inr rfl) ⟨rfl, rfl⟩]
 obtain ⟨g1, h⟩ := ck_some h
 try simp -implicitDefEqProofs only [go_sem] at g1
 obtain ⟨v35, q33, h⟩ := bnd_some h
 have w34 := e64_1 a0 (0, List.replicate a0.length (⟨0, 0⟩ : ReCell)) v35 q33
 simp only [E64_1, X64_1] at w34
 try simp -implicitDefEqProofs only [go_sem] at w34
 cases h
 simp -implicitDefEqProofs only [go_sem, i64, c64, g1, w34]
theorem call19 (args : List AV) (S : St) : evCall T (evFL T) 19 args S = lendC (evFL T 19) S (lendAll S [[0, 0]] args) := evCall0 fn19 rfl rfl rfl args S
theorem callz19 (args : List AV) (S : St) : evCallFz T (evFL T) 19 args S = lendZ (evFL T 19) S [[0, 0]] (lendAll S [[0, 0]] args) := evCallFz0 fn19 rfl rfl rfl args S
attribute [go_sem] call19 callz19
theorem e19 (a0 : Acn) (r : Acn) (h : m19 a0 = some r) : evFL T 19 [.agg [.int .i64 a0.kind, .int .i64 a0.n]] [] = some (.agg [.int .i64 r.kind, .int .i64 r.n], []) := by
 unfold m19 at h
 rw [evFL_at fn19 (Nat.le_of_ble_eq_true rfl) rfl (.inr rfl) ⟨rfl, rfl⟩]
 cases h
 simp -implicitDefEqProofs only [go_sem, i19, c19]
theorem call65 (args : List AV) (S : St) : evCall T (evFL T) 65 args S = lendC (evFL T 65) S (lendAll S [[2]] args) := evCall0 fn65 rfl rfl rfl args S
theorem callz65 (args : List AV) (S : St) : evCallFz T (evFL T) 65 args S = lendZ (evFL T 65) S [[2]] (lendAll S [[2]] args) := evCallFz0 fn65 rfl rfl rfl args S
attribute [go_sem] call65 callz65
noncomputable def X65_1 (a0 : (List Acn)) (o : (List Acn)) : Ex × Fr × St :=
 (.exit 0, frOf 23 (upd anyF 3 (.sl 0 0 o.length)), [some ⟨.arr, 2, o.map encAcn⟩])
noncomputable def E65_1 (a0 : (List Acn)) (s : (Int × List Acn)) : Fr × St := (frOf 23 (upd (upd (upd anyF 0 (.ts .imm 2 (a0.map encAcn))) 3 (.sl 0 0 s.2.length)) 4 (.int .i64 s.1)), [some ⟨.arr, 2, s.2.map encAcn⟩])
theorem b65_1 (a0 : (List Acn)) (s : (Int × List Acn)) (o : Ctl (Int × List Acn) (List Acn)) (h : m65_1b a0 s = some o) : evCL T 0 k65_1b (E65_1 a0 s).1 (E65_1 a0 s).2 = some (ctlX (E65_1 a0) (X65_1 a0) o) := by
 unfold m65_1b at h
 obtain ⟨s17, s18⟩ := s
 replace h := sel2_some h
 try simp -implicitDefEqProofs only [go_sem, E65_1, X65_1, k65_1b]
 cases b19 : (ltI s17 (↑a0.length : Int) : Bool)
 · replace h := br_f b19 h
   cases h
   simp -implicitDefEqProofs only [go_sem, E65_1, X65_1, k65_1b, b19]
 · replace h := br_t b19 h
   obtain ⟨x20, q21, h⟩ := bnd_some h
   obtain ⟨g22, g23, g24⟩ := idx_row encAcn q21
   try simp -implicitDefEqProofs only [go_sem] at g23
   try simp -implicitDefEqProofs only [go_sem] at g24
   obtain ⟨r27, q25, h⟩ := bnd_some h
   have w26 := e19 x20 r27 q25
   try simp -implicitDefEqProofs only [go_sem] at w26
   obtain ⟨x28, q29, h⟩ := bnd_some h
   obtain ⟨g30, g31, g32⟩ := idx_row encAcn q29
   try simp -implicitDefEqProofs only [go_sem] at g31
   try simp -implicitDefEqProofs only [go_sem] at g32
   cases h
   simp -implicitDefEqProofs only [go_sem, E65_1, X65_1, k65_1b, b19, g22, g23, g24, w26, g30, g31, g32]
theorem e65_1 (a0 : (List Acn)) (s : (Int × List Acn)) (o : (List Acn)) (h : loopP (m65_1b a0) s = some o) : evCL T 0 (.loop k65_1b) (E65_1 a0 s).1 (E65_1 a0 s).2 = some (X65_1 a0 o) :=
 loop_walk (E := E65_1 a0) (X := X65_1 a0) (by intro b; (simp only [X65_1]; nofun)) (b65_1 a0) s o h
theorem e65 (a0 : (List Acn)) (r : (List Acn)) (h : m65 a0 = some r) : evFL T 65 [.ts .imm 2 (a0.map encAcn)] [] = some (.sl 0 0 r.length, [some ⟨.arr, 2, r.map encAcn⟩]) := by
 unfold m65 at h
 rw [evFL_at fn65 (Nat.le_of_ble_eq_true rfl) rfl (.inr rfl) ⟨rfl, rfl⟩]
 obtain ⟨g1, h⟩ := ck_some h
 try simp -implicitDefEqProofs only [go_sem] at g1
 obtain ⟨v35, q33, h⟩ := bnd_some h
 have w34 := e65_1 a0 (0, List.replicate a0.length (⟨0, 0⟩ : Acn)) v35 q33
 simp only [E65_1, X65_1] at w34
 try simp -implicitDefEqProofs only [go_sem] at w34
 cases h
 simp -implicitDefEqProofs only [go_sem, i65, c65, g1, w34]
theorem call29 (args : List AV) (S : St) : evCall T (evFL T) 29 args S = lendC (evFL T 29) S (lendAll S [[4, 2, 0, 2, 0]] args) := evCall0 fn29 rfl rfl rfl args S
theorem callz29 (args : List AV) (S : St) : evCallFz T (evFL T) 29 args S = lendZ (evFL T 29) S [[4, 2, 0, 2, 0]] (lendAll S [[4, 2, 0, 2, 0]] args) := evCallFz0 fn29 rfl rfl rfl args S
attribute [go_sem] call29 callz29
theorem e29 (a0 : Term) (r : Term) (h : m29 a0 = some r) : evFL T 29 [.agg [.ts .imm 4 (a0.ranges.map encRange), .ts .imm 2 (a0.path.map encReCell), .int .i64 a0.comm, .ts .imm 2 (a0.acts.map encAcn), .int .i64 a0.verdict]] [] = some (.agg [.sl 0 0 r.ranges.length, .sl 1 0 r.path.length, .int .i64 r.comm, .sl 2 0 r.acts.length, .int .i64 r.verdict], [some ⟨.arr, 4, r.ranges.map encRange⟩, some ⟨.arr, 2, r.path.map encReCell⟩, some ⟨.arr, 2, r.acts.map encAcn⟩]) := by
 unfold m29 at h
 rw [evFL_at fn29 (Nat.le_of_ble_eq_true rfl) rfl (.inr rfl) ⟨rfl, rfl⟩]
 obtain ⟨r3, q1, h⟩ := bnd_some h
 have w2 := e63 a0.ranges r3 q1
 try simp -implicitDefEqProofs only [go_sem] at w2
 obtain ⟨r6, q4, h⟩ := bnd_some h
 have w5 := e64 a0.path r6 q4
 try simp -implicitDefEqProofs only [go_sem] at w5
 obtain ⟨r9, q7, h⟩ := bnd_some h
 have w8 := e65 a0.acts r9 q7
 try simp -implicitDefEqProofs only [go_sem] at w8
 cases h
 simp -implicitDefEqProofs only [go_sem, i29, c29, w2, w5, w8]
theorem call74 (args : List AV) (S : St) : evCall T (evFL T) 74 args S = lendC (evFL T 74) S (lendAll S [[1]] args) := evCall0 fn74 rfl rfl rfl args S
theorem callz74 (args : List AV) (S : St) : evCallFz T (evFL T) 74 args S = lendZ (evFL T 74) S [[1]] (lendAll S [[1]] args) := evCallFz0 fn74 rfl rfl rfl args S
attribute [go_sem] call74 callz74
noncomputable def X74_1 (a0 : (List Int)) (o : (List Int)) : Ex × Fr × St :=
 (.exit 0, frOf 22 (upd anyF 3 (.sl 0 0 o.length)), [some ⟨.arr, 1, o.map encInt⟩])
noncomputable def E74_1 (a0 : (List Int)) (s : (Int × List Int)) : Fr × St := (frOf 22 (upd (upd (upd anyF 0 (.ts .imm 1 (a0.map encInt))) 3 (.sl 0 0 s.2.length)) 4 (.int .i64 s.1)), [some ⟨.arr, 1, s.2.map encInt⟩])
theorem b74_1 (a0 : (List Int)) (s : (Int × List Int)) (o : Ctl (Int × List Int) (List Int)) (h : m74_1b a0 s = some o) : evCL T 0 k74_1b (E74_1 a0 s).1 (E74_1 a0 s).2 = some (ctlX (E74_1 a0) (X74_1 a0) o) := by
 unfold m74_1b at h
 obtain ⟨s14, s15⟩ := s
 replace h := sel2_some h
 try simp -implicitDefEqProofs only [go_sem, E74_1, X74_1, k74_1b]
 cases b16 : (ltI s14 (↑a0.length : Int) : Bool)
 · replace h := br_f b16 h
   cases h
   simp -implicitDefEqProofs only [go_sem, E74_1, X74_1, k74_1b, b16]
 · replace h := br_t b16 h
   obtain ⟨x17, q18, h⟩ := bnd_some h
   obtain ⟨g19, g20, g21⟩ := idx_row encInt q18
   try simp -implicitDefEqProofs only [go_sem] at g20
   try simp -implicitDefEqProofs only [go_sem] at g21
   obtain ⟨x22, q23, h⟩ := bnd_some h
   obtain ⟨g24, g25, g26⟩ := idx_row encInt q23
   try simp -implicitDefEqProofs only [go_sem] at g25
   try simp -implicitDefEqProofs only [go_sem] at g26
   cases h
   simp -implicitDefEqProofs only [go_sem, E74_1, X74_1, k74_1b, b16, g19, g20, g21, g24, g25, g26]
theorem e74_1 (a0 : (List Int)) (s : (Int × List Int)) (o : (List Int)) (h : loopP (m74_1b a0) s = some o) : evCL T 0 (.loop k74_1b) (E74_1 a0 s).1 (E74_1 a0 s).2 = some (X74_1 a0 o) :=
 loop_walk (E := E74_1 a0) (X := X74_1 a0) (by intro b; (simp only [X74_1]; nofun)) (b74_1 a0) s o h
theorem e74 (a0 : (List Int)) (r : (List Int)) (h : m74 a0 = some r) : evFL T 74 [.ts .imm 1 (a0.map encInt)] [] = some (.sl 0 0 r.length, [some ⟨.arr, 1, r.map encInt⟩]) := by
 unfold m74 at h
 rw [evFL_at fn74 (Nat.le_of_ble_eq_true rfl) rfl (.inr rfl) ⟨rfl, rfl⟩]
 obtain ⟨g1, h⟩ := ck_some h
 try simp -implicitDefEqProofs only [go_sem] at g1
 obtain ⟨v29, q27, h⟩ := bnd_some h
 have w28 := e74_1 a0 (0, List.replicate a0.length 0) v29 q27
 simp only [E74_1, X74_1] at w28
 try simp -implicitDefEqProofs only [go_sem] at w28
 cases h
 simp -implicitDefEqProofs only [go_sem, i74, c74, g1, w28]
theorem call36 (args : List AV) (S : St) : evCall T (evFL T) 36 args S = lendC (evFL T 36) S (lendAll S [[0, 1, 0, 0, 0, 1]] args) := evCall0 fn36 rfl rfl rfl args S
theorem callz36 (args : List AV) (S : St) : evCallFz T (evFL T) 36 args S = lendZ (evFL T 36) S [[0, 1, 0, 0, 0, 1]] (lendAll S [[0, 1, 0, 0, 0, 1]] args) := evCallFz0 fn36 rfl rfl rfl args S
attribute [go_sem] call36 callz36
theorem e36 (a0 : Attrs) (r : Attrs) (h : m36 a0 = some r) : evFL T 36 [.agg [.int .i64 a0.origin, .ts .imm 1 (a0.path.map encInt), .int .i64 a0.next, .int .i64 a0.med, .int .i64 a0.pref, .ts .imm 1 (a0.comms.map encInt)]] [] = some (.agg [.int .i64 r.origin, .sl 0 0 r.path.length, .int .i64 r.next, .int .i64 r.med, .int .i64 r.pref, .sl 1 0 r.comms.length], [some ⟨.arr, 1, r.path.map encInt⟩, some ⟨.arr, 1, r.comms.map encInt⟩]) := by
 unfold m36 at h
 rw [evFL_at fn36 (Nat.le_of_ble_eq_true rfl) rfl (.inr rfl) ⟨rfl, rfl⟩]
 obtain ⟨r3, q1, h⟩ := bnd_some h
 have w2 := e74 a0.path r3 q1
 try simp -implicitDefEqProofs only [go_sem] at w2
 obtain ⟨r6, q4, h⟩ := bnd_some h
 have w5 := e74 a0.comms r6 q4
 try simp -implicitDefEqProofs only [go_sem] at w5
 cases h
 simp -implicitDefEqProofs only [go_sem, i36, c36, w2, w5]
theorem call10 (args : List AV) (S : St) : evCall T (evFL T) 10 args S = lendC (evFL T 10) S (lendAll S [[0, 0, 0, 1, 0, 0, 0, 1]] args) := evCall0 fn10 rfl rfl rfl args S
theorem callz10 (args : List AV) (S : St) : evCallFz T (evFL T) 10 args S = lendZ (evFL T 10) S [[0, 0, 0, 1, 0, 0, 0, 1]] (lendAll S [[0, 0, 0, 1, 0, 0, 0, 1]] args) := evCallFz0 fn10 rfl rfl rfl args S
attribute [go_sem] call10 callz10
theorem e10 (a0 : Route) (r : Route) (h : m10 a0 = some r) : evFL T 10 [.agg [.int .i64 a0.prefix_.addr, .int .i64 a0.prefix_.len, .int .i64 a0.attrs.origin, .ts .imm 1 (a0.attrs.path.map encInt), .int .i64 a0.attrs.next, .int .i64 a0.attrs.med, .int .i64 a0.attrs.pref, .ts .imm 1 (a0.attrs.comms.map encInt)]] [] = some (.agg [.int .i64 r.prefix_.addr, .int .i64 r.prefix_.len, .int .i64 r.attrs.origin, .sl 0 0 r.attrs.path.length, .int .i64 r.attrs.next, .int .i64 r.attrs.med, .int .i64 r.attrs.pref, .sl 1 0 r.attrs.comms.length], [some ⟨.arr, 1, r.attrs.path.map encInt⟩, some ⟨.arr, 1, r.attrs.comms.map encInt⟩]) := by
 unfold m10 at h
 rw [evFL_at fn10 (Nat.le_of_ble_eq_true rfl) rfl (.inr rfl) ⟨rfl, rfl⟩]
 obtain ⟨r3, q1, h⟩ := bnd_some h
 have w2 := e35 a0.prefix_ r3 q1
 try simp -implicitDefEqProofs only [go_sem] at w2
 obtain ⟨r6, q4, h⟩ := bnd_some h
 have w5 := e36 a0.attrs r6 q4
 try simp -implicitDefEqProofs only [go_sem] at w5
 cases h
 simp -implicitDefEqProofs only [go_sem, i10, c10, w2, w5]
theorem call71 (args : List AV) (S : St) : evCall T (evFL T) 71 args S = lendC (evFL T 71) S (lendAll S [[0], [0], [0]] args) := evCall0 fn71 rfl rfl rfl args S
theorem callz71 (args : List AV) (S : St) : evCallFz T (evFL T) 71 args S = lendZ (evFL T 71) S [[0]] (lendAll S [[0], [0], [0]] args) := evCallFz0 fn71 rfl rfl rfl args S
attribute [go_sem] call71 callz71
noncomputable def X71_1 (a0 : Int) (a1 : Int) (a2 : Int) (o : Bool) : Ex × Fr × St :=
 (.normal, frOf 15 (upd anyF 6 (.bool o)), [])
theorem e71_1 (a0 : Int) (a1 : Int) (a2 : Int) (o : Bool) (h : m71_1 a0 a1 a2 = some o) : evCL T 0 k71_1 (frOf 15 (upd (upd (upd anyF 0 (.int .i64 a0)) 1 (.int .i64 a1)) 2 (.int .i64 a2))) [] = some (X71_1 a0 a1 a2 o) := by
 unfold m71_1 at h
 try simp -implicitDefEqProofs only [go_sem, X71_1, k71_1]
 cases b1 : (leI a1 a0 : Bool)
 · replace h := br_f b1 h
   cases h
   simp -implicitDefEqProofs only [go_sem, X71_1, k71_1, b1]
 · replace h := br_t b1 h
   cases h
   simp -implicitDefEqProofs only [go_sem, X71_1, k71_1, b1]
theorem e71 (a0 : Int) (a1 : Int) (a2 : Int) (r : Bool) (h : m71 a0 a1 a2 = some r) : evFL T 71 [.int .i64 a0, .int .i64 a1, .int .i64 a2] [] = some (.bool r, []) := by
 unfold m71 at h
 rw [evFL_at fn71 (Nat.le_of_ble_eq_true rfl) rfl (.inr rfl) ⟨rfl, rfl⟩]
 obtain ⟨v4, q2, h⟩ := bnd_some h
 have w3 := e71_1 a0 a1 a2 v4 q2
 simp only [X71_1] at w3
 try simp -implicitDefEqProofs only [go_sem] at w3
 cases h
 simp -implicitDefEqProofs only [go_sem, i71, c71, w3]
theorem call72 (args : List AV) (S : St) : evCall T (evFL T) 72 args S = lendC (evFL T 72) S (lendAll S [[0]] args) := evCall0 fn72 rfl rfl rfl args S
theorem callz72 (args : List AV) (S : St) : evCallFz T (evFL T) 72 args S = lendZ (evFL T 72) S [[0]] (lendAll S [[0]] args) := evCallFz0 fn72 rfl rfl rfl args S
attribute [go_sem] call72 callz72
theorem e72 (a0 : Int) (r : Bool) (h : m72 a0 = some r) : evFL T 72 [.int .i64 a0] [] = some (.bool r, []) := by
 unfold m72 at h
 rw [evFL_at fn72 (Nat.le_of_ble_eq_true rfl) rfl (.inr rfl) ⟨rfl, rfl⟩]
 obtain ⟨r3, q1, h⟩ := bnd_some h
 have w2 := e71 a0 0 4294967295 r3 q1
 try simp -implicitDefEqProofs only [go_sem] at w2
 cases h
 simp -implicitDefEqProofs only [go_sem, i72, c72, w2]
theorem call73 (args : List AV) (S : St) : evCall T (evFL T) 73 args S = lendC (evFL T 73) S (lendAll S [[0, 0]] args) := evCall0 fn73 rfl rfl rfl args S
theorem callz73 (args : List AV) (S : St) : evCallFz T (evFL T) 73 args S = lendZ (evFL T 73) S [[0]] (lendAll S [[0, 0]] args) := evCallFz0 fn73 rfl rfl rfl args S
attribute [go_sem] call73 callz73
theorem e73 (a0 : Prefix) (r : Int) (h : m73 a0 = some r) : evFL T 73 [.agg [.int .i64 a0.addr, .int .i64 a0.len]] [] = some (.int .i64 r, []) := by
 unfold m73 at h
 rw [evFL_at fn73 (Nat.le_of_ble_eq_true rfl) rfl (.inr rfl) ⟨rfl, rfl⟩]
 obtain ⟨g1, h⟩ := ck_some h
 try simp -implicitDefEqProofs only [go_sem] at g1
 cases h
 simp -implicitDefEqProofs only [go_sem, i73, c73, g1]
theorem call33 (args : List AV) (S : St) : evCall T (evFL T) 33 args S = lendC (evFL T 33) S (lendAll S [[0, 0]] args) := evCall0 fn33 rfl rfl rfl args S
theorem callz33 (args : List AV) (S : St) : evCallFz T (evFL T) 33 args S = lendZ (evFL T 33) S [[0]] (lendAll S [[0, 0]] args) := evCallFz0 fn33 rfl rfl rfl args S
attribute [go_sem] call33 callz33
noncomputable def X33_1 (a0 : Prefix) (o : Bool) : Ex × Fr × St :=
 (.normal, frOf 19 (upd anyF 2 (.bool o)), [])
theorem e33_1 (a0 : Prefix) (o : Bool) (h : m33_1 a0 = some o) : evCL T 0 k33_1 (frOf 19 (upd anyF 1 (.ptr 0 0 0))) [some ⟨.box, 2, [[.int .i64 a0.addr, .int .i64 a0.len]]⟩] = some (X33_1 a0 o) := by
 unfold m33_1 at h
 obtain ⟨r3, q1, h⟩ := bnd_some h
 have w2 := e71 a0.len 0 32 r3 q1
 try simp -implicitDefEqProofs only [go_sem] at w2
 try simp -implicitDefEqProofs only [go_sem, X33_1, k33_1, w2]
 cases b4 : (r3 : Bool)
 · replace h := br_f b4 h
   cases h
   simp -implicitDefEqProofs only [go_sem, X33_1, k33_1, w2, b4]
 · replace h := br_t b4 h
   obtain ⟨r7, q5, h⟩ := bnd_some h
   have w6 := e72 a0.addr r7 q5
   try simp -implicitDefEqProofs only [go_sem] at w6
   try simp -implicitDefEqProofs only [go_sem, X33_1, k33_1, w2, b4, w6]
   cases b8 : (r7 : Bool)
   · replace h := br_f b8 h
     cases h
     simp -implicitDefEqProofs only [go_sem, X33_1, k33_1, w2, b4, w6, b8]
   · replace h := br_t b8 h
     obtain ⟨r11, q9, h⟩ := bnd_some h
     have w10 := e73 a0 r11 q9
     try simp -implicitDefEqProofs only [go_sem] at w10
     obtain ⟨g12, h⟩ := ck_some h
     try simp -implicitDefEqProofs only [go_sem] at g12
     cases h
     simp -implicitDefEqProofs only [go_sem, X33_1, k33_1, w2, b4, w6, b8, w10, g12]
theorem e33 (a0 : Prefix) (r : Bool) (h : m33 a0 = some r) : evFL T 33 [.agg [.int .i64 a0.addr, .int .i64 a0.len]] [] = some (.bool r, []) := by
 unfold m33 at h
 rw [evFL_at fn33 (Nat.le_of_ble_eq_true rfl) rfl (.inr rfl) ⟨rfl, rfl⟩]
 obtain ⟨v15, q13, h⟩ := bnd_some h
 have w14 := e33_1 a0 v15 q13
 simp only [X33_1] at w14
 try simp -implicitDefEqProofs only [go_sem] at w14
 cases h
 simp -implicitDefEqProofs only [go_sem, i33, c33, w14]
theorem call48 (args : List AV) (S : St) : evCall T (evFL T) 48 args S = lendC (evFL T 48) S (lendAll S [[0, 0]] args) := evCall0 fn48 rfl rfl rfl args S
theorem callz48 (args : List AV) (S : St) : evCallFz T (evFL T) 48 args S = lendZ (evFL T 48) S [[0]] (lendAll S [[0, 0]] args) := evCallFz0 fn48 rfl rfl rfl args S
attribute [go_sem] call48 callz48
noncomputable def X48_3 (a0 : Acn) (p5 : Bool) (o : Bool) : Ex × Fr × St :=
 (.normal, frOf 21 (upd (upd anyF 1 (.ptr 0 0 0)) 5 (.bool o)), [some ⟨.box, 2, [[.int .i64 a0.kind, .int .i64 a0.n]]⟩])
theorem e48_3 (a0 : Acn) (p5 : Bool) (o : Bool) (h : m48_3 a0 p5 = some o) : evCL T 0 k48_3 (frOf 21 (upd (upd (upd anyF 1 (.ptr 0 0 0)) 4 (.int .i64 a0.kind)) 5 (.bool p5))) [some ⟨.box, 2, [[.int .i64 a0.kind, .int .i64 a0.n]]⟩] = some (X48_3 a0 p5 o) := by
 unfold m48_3 at h
 try simp -implicitDefEqProofs only [go_sem, X48_3, k48_3]
 cases b6 : (p5 : Bool)
 · replace h := br_f b6 h
   cases h
   simp -implicitDefEqProofs only [go_sem, X48_3, k48_3, b6]
 · replace h := br_t b6 h
   cases h
   simp -implicitDefEqProofs only [go_sem, X48_3, k48_3, b6]
noncomputable def X48_2 (a0 : Acn) (p3 : Bool) (o : Bool) : Ex × Fr × St :=
 (.normal, frOf 21 (upd (upd anyF 1 (.ptr 0 0 0)) 5 (.bool o)), [some ⟨.box, 2, [[.int .i64 a0.kind, .int .i64 a0.n]]⟩])
theorem e48_2 (a0 : Acn) (p3 : Bool) (o : Bool) (h : m48_2 a0 p3 = some o) : evCL T 0 k48_2 (frOf 21 (upd (upd (upd anyF 1 (.ptr 0 0 0)) 4 (.int .i64 a0.kind)) 5 (.bool p3))) [some ⟨.box, 2, [[.int .i64 a0.kind, .int .i64 a0.n]]⟩] = some (X48_2 a0 p3 o) := by
 unfold m48_2 at h
 try simp -implicitDefEqProofs only [go_sem, X48_2, k48_2]
 cases b4 : (p3 : Bool)
 · replace h := br_f b4 h
   obtain ⟨v9, q7, h⟩ := bnd_some h
   have w8 := e48_3 a0 (eqI a0.kind 3) v9 q7
   simp only [X48_3] at w8
   try simp -implicitDefEqProofs only [go_sem] at w8
   cases h
   simp -implicitDefEqProofs only [go_sem, X48_2, k48_2, b4, w8]
 · replace h := br_t b4 h
   cases h
   simp -implicitDefEqProofs only [go_sem, X48_2, k48_2, b4]
noncomputable def X48_1 (a0 : Acn) (p1 : Bool) (o : Bool) : Ex × Fr × St :=
 (.normal, frOf 21 (upd (upd anyF 1 (.ptr 0 0 0)) 5 (.bool o)), [some ⟨.box, 2, [[.int .i64 a0.kind, .int .i64 a0.n]]⟩])
theorem e48_1 (a0 : Acn) (p1 : Bool) (o : Bool) (h : m48_1 a0 p1 = some o) : evCL T 0 k48_1 (frOf 21 (upd (upd (upd anyF 1 (.ptr 0 0 0)) 4 (.int .i64 a0.kind)) 5 (.bool p1))) [some ⟨.box, 2, [[.int .i64 a0.kind, .int .i64 a0.n]]⟩] = some (X48_1 a0 p1 o) := by
 unfold m48_1 at h
 try simp -implicitDefEqProofs only [go_sem, X48_1, k48_1]
 cases b2 : (p1 : Bool)
 · replace h := br_f b2 h
   obtain ⟨v12, q10, h⟩ := bnd_some h
   have w11 := e48_2 a0 (eqI a0.kind 2) v12 q10
   simp only [X48_2] at w11
   try simp -implicitDefEqProofs only [go_sem] at w11
   cases h
   simp -implicitDefEqProofs only [go_sem, X48_1, k48_1, b2, w11]
 · replace h := br_t b2 h
   cases h
   simp -implicitDefEqProofs only [go_sem, X48_1, k48_1, b2]
noncomputable def X48_4 (a0 : Acn) (o : Bool) : Ex × Fr × St :=
 (.normal, frOf 21 (upd anyF 2 (.bool o)), [])
theorem e48_4 (a0 : Acn) (o : Bool) (h : m48_4 a0 = some o) : evCL T 0 k48_4 (frOf 21 (upd anyF 1 (.ptr 0 0 0))) [some ⟨.box, 2, [[.int .i64 a0.kind, .int .i64 a0.n]]⟩] = some (X48_4 a0 o) := by
 unfold m48_4 at h
 try simp -implicitDefEqProofs only [go_sem, X48_4, k48_4]
 cases b20 : (eqI a0.kind 5 : Bool)
 · replace h := br_f b20 h
   cases h
   simp -implicitDefEqProofs only [go_sem, X48_4, k48_4, b20]
 · replace h := br_t b20 h
   obtain ⟨r23, q21, h⟩ := bnd_some h
   have w22 := e71 a0.n 1 65535 r23 q21
   try simp -implicitDefEqProofs only [go_sem] at w22
   cases h
   simp -implicitDefEqProofs only [go_sem, X48_4, k48_4, b20, w22]
theorem e48 (a0 : Acn) (r : Bool) (h : m48 a0 = some r) : evFL T 48 [.agg [.int .i64 a0.kind, .int .i64 a0.n]] [] = some (.bool r, []) := by
 unfold m48 at h
 rw [evFL_at fn48 (Nat.le_of_ble_eq_true rfl) rfl (.inr rfl) ⟨rfl, rfl⟩]
 obtain ⟨v15, q13, h⟩ := bnd_some h
 have w14 := e48_1 a0 (eqI a0.kind 1) v15 q13
 simp only [X48_1] at w14
 try simp -implicitDefEqProofs only [go_sem] at w14
 try simp -implicitDefEqProofs only [go_sem, i48, c48, w14]
 cases b16 : (v15 : Bool)
 · replace h := br_f b16 h
   obtain ⟨v26, q24, h⟩ := bnd_some h
   have w25 := e48_4 a0 v26 q24
   simp only [X48_4] at w25
   try simp -implicitDefEqProofs only [go_sem] at w25
   cases h
   simp -implicitDefEqProofs only [go_sem, i48, c48, w14, b16, w25]
 · replace h := br_t b16 h
   obtain ⟨r19, q17, h⟩ := bnd_some h
   have w18 := e71 a0.n 0 1000000 r19 q17
   try simp -implicitDefEqProofs only [go_sem] at w18
   cases h
   simp -implicitDefEqProofs only [go_sem, i48, c48, w14, b16, w18]
theorem call154 (args : List AV) (S : St) : evCall T (evFL T) 154 args S = lendC (evFL T 154) S (lendAll S [[0]] args) := evCall0 fn154 rfl rfl rfl args S
theorem callz154 (args : List AV) (S : St) : evCallFz T (evFL T) 154 args S = lendZ (evFL T 154) S [[0]] (lendAll S [[0]] args) := evCallFz0 fn154 rfl rfl rfl args S
attribute [go_sem] call154 callz154
noncomputable def X154_3 (a0 : Int) (p5 : Bool) (o : Bool) : Ex × Fr × St :=
 (.normal, frOf 14 (upd (upd anyF 3 (.int .i64 a0)) 4 (.bool o)), [])
theorem e154_3 (a0 : Int) (p5 : Bool) (o : Bool) (h : m154_3 a0 p5 = some o) : evCL T 0 k154_3 (frOf 14 (upd (upd anyF 3 (.int .i64 a0)) 4 (.bool p5))) [] = some (X154_3 a0 p5 o) := by
 unfold m154_3 at h
 try simp -implicitDefEqProofs only [go_sem, X154_3, k154_3]
 cases b6 : (p5 : Bool)
 · replace h := br_f b6 h
   cases h
   simp -implicitDefEqProofs only [go_sem, X154_3, k154_3, b6]
 · replace h := br_t b6 h
   cases h
   simp -implicitDefEqProofs only [go_sem, X154_3, k154_3, b6]
noncomputable def X154_2 (a0 : Int) (p3 : Bool) (o : Bool) : Ex × Fr × St :=
 (.normal, frOf 14 (upd (upd anyF 3 (.int .i64 a0)) 4 (.bool o)), [])
theorem e154_2 (a0 : Int) (p3 : Bool) (o : Bool) (h : m154_2 a0 p3 = some o) : evCL T 0 k154_2 (frOf 14 (upd (upd anyF 3 (.int .i64 a0)) 4 (.bool p3))) [] = some (X154_2 a0 p3 o) := by
 unfold m154_2 at h
 try simp -implicitDefEqProofs only [go_sem, X154_2, k154_2]
 cases b4 : (p3 : Bool)
 · replace h := br_f b4 h
   obtain ⟨v9, q7, h⟩ := bnd_some h
   have w8 := e154_3 a0 (eqI a0 3) v9 q7
   simp only [X154_3] at w8
   try simp -implicitDefEqProofs only [go_sem] at w8
   cases h
   simp -implicitDefEqProofs only [go_sem, X154_2, k154_2, b4, w8]
 · replace h := br_t b4 h
   cases h
   simp -implicitDefEqProofs only [go_sem, X154_2, k154_2, b4]
noncomputable def X154_1 (a0 : Int) (p1 : Bool) (o : Bool) : Ex × Fr × St :=
 (.normal, frOf 14 (upd (upd anyF 3 (.int .i64 a0)) 4 (.bool o)), [])
theorem e154_1 (a0 : Int) (p1 : Bool) (o : Bool) (h : m154_1 a0 p1 = some o) : evCL T 0 k154_1 (frOf 14 (upd (upd anyF 3 (.int .i64 a0)) 4 (.bool p1))) [] = some (X154_1 a0 p1 o) := by
 unfold m154_1 at h
 try simp -implicitDefEqProofs only [go_sem, X154_1, k154_1]
 cases b2 : (p1 : Bool)
 · replace h := br_f b2 h
   obtain ⟨v12, q10, h⟩ := bnd_some h
   have w11 := e154_2 a0 (eqI a0 2) v12 q10
   simp only [X154_2] at w11
   try simp -implicitDefEqProofs only [go_sem] at w11
   cases h
   simp -implicitDefEqProofs only [go_sem, X154_1, k154_1, b2, w11]
 · replace h := br_t b2 h
   cases h
   simp -implicitDefEqProofs only [go_sem, X154_1, k154_1, b2]
noncomputable def X154_4 (a0 : Int) (p17 : Bool) (o : Bool) : Ex × Fr × St :=
 (.normal, frOf 14 (upd (upd anyF 3 (.int .i64 a0)) 9 (.bool o)), [])
theorem e154_4 (a0 : Int) (p17 : Bool) (o : Bool) (h : m154_4 a0 p17 = some o) : evCL T 0 k154_4 (frOf 14 (upd (upd anyF 3 (.int .i64 a0)) 9 (.bool p17))) [] = some (X154_4 a0 p17 o) := by
 unfold m154_4 at h
 try simp -implicitDefEqProofs only [go_sem, X154_4, k154_4]
 cases b18 : (p17 : Bool)
 · replace h := br_f b18 h
   cases h
   simp -implicitDefEqProofs only [go_sem, X154_4, k154_4, b18]
 · replace h := br_t b18 h
   cases h
   simp -implicitDefEqProofs only [go_sem, X154_4, k154_4, b18]
theorem e154 (a0 : Int) (r : Int) (h : m154 a0 = some r) : evFL T 154 [.int .i64 a0] [] = some (.int .i64 r, []) := by
 unfold m154 at h
 rw [evFL_at fn154 (Nat.le_of_ble_eq_true rfl) rfl (.inr rfl) ⟨rfl, rfl⟩]
 obtain ⟨v15, q13, h⟩ := bnd_some h
 have w14 := e154_1 a0 (eqI a0 1) v15 q13
 simp only [X154_1] at w14
 try simp -implicitDefEqProofs only [go_sem] at w14
 try simp -implicitDefEqProofs only [go_sem, i154, c154, w14]
 cases b16 : (v15 : Bool)
 · replace h := br_f b16 h
   obtain ⟨v21, q19, h⟩ := bnd_some h
   have w20 := e154_4 a0 (eqI a0 5) v21 q19
   simp only [X154_4] at w20
   try simp -implicitDefEqProofs only [go_sem] at w20
   try simp -implicitDefEqProofs only [go_sem, i154, c154, w14, b16, w20]
   cases b22 : (v21 : Bool)
   · replace h := br_f b22 h
     try simp -implicitDefEqProofs only [go_sem, i154, c154, w14, b16, w20, b22]
     cases b23 : (eqI a0 7 : Bool)
     · replace h := br_f b23 h
       cases h
       simp -implicitDefEqProofs only [go_sem, i154, c154, w14, b16, w20, b22, b23]
     · replace h := br_t b23 h
       cases h
       simp -implicitDefEqProofs only [go_sem, i154, c154, w14, b16, w20, b22, b23]
   · replace h := br_t b22 h
     cases h
     simp -implicitDefEqProofs only [go_sem, i154, c154, w14, b16, w20, b22]
 · replace h := br_t b16 h
   cases h
   simp -implicitDefEqProofs only [go_sem, i154, c154, w14, b16]
theorem call143 (args : List AV) (S : St) : evCall T (evFL T) 143 args S = lendC (evFL T 143) S (lendAll S [[2], [0]] args) := evCall0 fn143 rfl rfl rfl args S
theorem callz143 (args : List AV) (S : St) : evCallFz T (evFL T) 143 args S = lendZ (evFL T 143) S [[0, 0, 3], [0]] (lendAll S [[2], [0]] args) := evCallFz0 fn143 rfl rfl rfl args S
attribute [go_sem] call143 callz143
noncomputable def X143_1 (a0 : (List ReCell)) (a1 : Int) (r9 : Int) (x2 : ReCell) (o : Bool) : Ex × Fr × St :=
 (.normal, frOf 76 (upd (upd (upd (upd (upd (upd anyF 0 (.ts .imm 2 (a0.map encReCell))) 1 (.int .i64 a1)) 4 (.ptr 0 0 0)) 6 (.ptr 2 0 0)) 7 (.int .i64 r9)) 45 (.bool o)), [some ⟨.box, 3, [[.int .i64 0, .int .i64 0, .sl 1 0 0]]⟩, some ⟨.arr, 3, []⟩, some ⟨.box, 2, [[.int .i64 x2.kind, .int .i64 x2.n]]⟩])
theorem e143_1 (rc : (List ReCell) → Int → Option (l6T × Int)) (hrc : ∀ (a0 : (List ReCell)) (a1 : Int) (r : (l6T × Int)), rc a0 a1 = some r → evFL T 143 [.ts .imm 2 (a0.map encReCell), .int .i64 a1] [] = some (.tup [.agg [.int .i64 r.1.kind_, .int .i64 r.1.n_, .sl 0 0 r.1.kids_.length], .int .i64 r.2], [some ⟨.arr, 3, r.1.kids_.map (encl6T .own)⟩])) (a0 : (List ReCell)) (a1 : Int) (r9 : Int) (x2 : ReCell) (o : Bool) (h : m143_1 rc r9 x2 = some o) : evCL T 0 k143_1 (frOf 76 (upd (upd (upd (upd (upd anyF 0 (.ts .imm 2 (a0.map encReCell))) 1 (.int .i64 a1)) 4 (.ptr 0 0 0)) 6 (.ptr 2 0 0)) 7 (.int .i64 r9))) [some ⟨.box, 3, [[.int .i64 0, .int .i64 0, .sl 1 0 0]]⟩, some ⟨.arr, 3, []⟩, some ⟨.box, 2, [[.int .i64 x2.kind, .int .i64 x2.n]]⟩] = some (X143_1 a0 a1 r9 x2 o) := by
 unfold m143_1 at h
 try simp -implicitDefEqProofs only [go_sem, X143_1, k143_1]
 cases b10 : (ltI r9 0 : Bool)
 · replace h := br_f b10 h
   try simp -implicitDefEqProofs only [go_sem, X143_1, k143_1, b10]
   cases b11 : (eqI x2.kind 3 : Bool)
   · replace h := br_f b11 h
     cases h
     simp -implicitDefEqProofs only [go_sem, X143_1, k143_1, b10, b11]
   · replace h := br_t b11 h
     obtain ⟨r14, q12, h⟩ := bnd_some h
     have w13 := e71 x2.n 1 65535 r14 q12
     try simp -implicitDefEqProofs only [go_sem] at w13
     try simp -implicitDefEqProofs only [go_sem, X143_1, k143_1, b10, b11, w13]
     cases b15 : (r14 : Bool)
     · replace h := br_f b15 h
       cases h
       simp -implicitDefEqProofs only [go_sem, X143_1, k143_1, b10, b11, w13, b15]
     · replace h := br_t b15 h
       cases h
       simp -implicitDefEqProofs only [go_sem, X143_1, k143_1, b10, b11, w13, b15]
 · replace h := br_t b10 h
   cases h
   simp -implicitDefEqProofs only [go_sem, X143_1, k143_1, b10]
noncomputable def X143_2 (a0 : (List ReCell)) (x2 : ReCell) (o : ((Int × List l6T) ⊕ Unit)) : Ex × Fr × St :=
 match o with
 | .inl o => (.exit 0, frOf 76 (upd (upd (upd anyF 1 (.int .i64 o.1)) 4 (.ptr 0 0 0)) 8 (.ptr 2 0 0)), [some ⟨.box, 3, [[.int .i64 0, .int .i64 0, .sl 1 0 0]]⟩, some ⟨.arr, 3, []⟩, some ⟨.box, 3, [[.int .i64 x2.kind, .int .i64 x2.n, .sl 3 0 o.2.length]]⟩, some ⟨.arr, 3, o.2.map (encl6T .own)⟩])
 | .inr o => (.ret, frOf 76 (upd (upd anyF 4 (.ptr 0 0 0)) 5 (.int .i64 0)), [some ⟨.box, 3, [[.int .i64 0, .int .i64 0, .sl 1 0 0]]⟩, some ⟨.arr, 3, []⟩])
noncomputable def E143_2 (a0 : (List ReCell)) (x2 : ReCell) (s : (Int × Int × List l6T)) : Fr × St := (frOf 76 (upd (upd (upd (upd (upd anyF 0 (.ts .imm 2 (a0.map encReCell))) 1 (.int .i64 s.1)) 4 (.ptr 0 0 0)) 7 (.int .i64 s.2.1)) 8 (.ptr 2 0 0)), [some ⟨.box, 3, [[.int .i64 0, .int .i64 0, .sl 1 0 0]]⟩, some ⟨.arr, 3, []⟩, some ⟨.box, 3, [[.int .i64 x2.kind, .int .i64 x2.n, .sl 3 0 s.2.2.length]]⟩, some ⟨.arr, 3, s.2.2.map (encl6T .own)⟩])
theorem b143_2 (rc : (List ReCell) → Int → Option (l6T × Int)) (hrc : ∀ (a0 : (List ReCell)) (a1 : Int) (r : (l6T × Int)), rc a0 a1 = some r → evFL T 143 [.ts .imm 2 (a0.map encReCell), .int .i64 a1] [] = some (.tup [.agg [.int .i64 r.1.kind_, .int .i64 r.1.n_, .sl 0 0 r.1.kids_.length], .int .i64 r.2], [some ⟨.arr, 3, r.1.kids_.map (encl6T .own)⟩])) (a0 : (List ReCell)) (x2 : ReCell) (s : (Int × Int × List l6T)) (o : Ctl (Int × Int × List l6T) ((Int × List l6T) ⊕ Unit)) (h : m143_2b rc a0 s = some o) : evCL T 0 k143_2b (E143_2 a0 x2 s).1 (E143_2 a0 x2 s).2 = some (ctlX (E143_2 a0 x2) (X143_2 a0 x2) o) := by
 unfold m143_2b at h
 obtain ⟨s27, s28, s29⟩ := s
 replace h := sel3_some h
 try simp -implicitDefEqProofs only [go_sem, E143_2, X143_2, k143_2b]
 cases b30 : (ltI 0 s28 : Bool)
 · replace h := br_f b30 h
   cases h
   simp -implicitDefEqProofs only [go_sem, E143_2, X143_2, k143_2b, b30]
 · replace h := br_t b30 h
   obtain ⟨⟨r33, r34⟩, q31, h⟩ := bnd_some h
   replace h := sel2_some h
   have w32 := hrc a0 s27 (r33, r34) q31
   try simp -implicitDefEqProofs only [go_sem] at w32
   try simp -implicitDefEqProofs only [go_sem, E143_2, X143_2, k143_2b, b30, w32]
   cases b35 : (eqI r34 0 : Bool)
   · replace h := br_f b35 h
     obtain ⟨g36, h⟩ := ck_some h
     try simp -implicitDefEqProofs only [go_sem] at g36
     cases h
     simp -implicitDefEqProofs only [go_sem, E143_2, X143_2, k143_2b, b30, w32, b35, g36]
   · replace h := br_t b35 h
     cases h
     simp -implicitDefEqProofs only [go_sem, E143_2, X143_2, k143_2b, b30, w32, b35]
theorem e143_2 (rc : (List ReCell) → Int → Option (l6T × Int)) (hrc : ∀ (a0 : (List ReCell)) (a1 : Int) (r : (l6T × Int)), rc a0 a1 = some r → evFL T 143 [.ts .imm 2 (a0.map encReCell), .int .i64 a1] [] = some (.tup [.agg [.int .i64 r.1.kind_, .int .i64 r.1.n_, .sl 0 0 r.1.kids_.length], .int .i64 r.2], [some ⟨.arr, 3, r.1.kids_.map (encl6T .own)⟩])) (a0 : (List ReCell)) (x2 : ReCell) (s : (Int × Int × List l6T)) (o : ((Int × List l6T) ⊕ Unit)) (h : loopP (m143_2b rc a0) s = some o) : evCL T 0 (.loop k143_2b) (E143_2 a0 x2 s).1 (E143_2 a0 x2 s).2 = some (X143_2 a0 x2 o) :=
 loop_walk (E := E143_2 a0 x2) (X := X143_2 a0 x2) (by intro b; rcases b with b | b <;> (simp only [X143_2]; nofun)) (b143_2 rc hrc a0 x2) s o h
theorem e143r (rc : (List ReCell) → Int → Option (l6T × Int)) (hrc : ∀ (a0 : (List ReCell)) (a1 : Int) (r : (l6T × Int)), rc a0 a1 = some r → evFL T 143 [.ts .imm 2 (a0.map encReCell), .int .i64 a1] [] = some (.tup [.agg [.int .i64 r.1.kind_, .int .i64 r.1.n_, .sl 0 0 r.1.kids_.length], .int .i64 r.2], [some ⟨.arr, 3, r.1.kids_.map (encl6T .own)⟩])) (a0 : (List ReCell)) (a1 : Int) (r : (l6T × Int)) (h : m143r rc a0 a1 = some r) : evFL T 143 [.ts .imm 2 (a0.map encReCell), .int .i64 a1] [] = some (.tup [.agg [.int .i64 r.1.kind_, .int .i64 r.1.n_, .sl 0 0 r.1.kids_.length], .int .i64 r.2], [some ⟨.arr, 3, r.1.kids_.map (encl6T .own)⟩]) := by
 unfold m143r at h
 rw [evFL_at fn143 (Nat.le_of_ble_eq_true rfl) rfl (.inr rfl) ⟨rfl, rfl⟩]
 try simp -implicitDefEqProofs only [go_sem, i143, c143]
 cases b1 : (leI (↑a0.length : Int) a1 : Bool)
 · replace h := br_f b1 h
   obtain ⟨x2, q3, h⟩ := bnd_some h
   obtain ⟨g4, g5, g6⟩ := idx_row encReCell q3
   try simp -implicitDefEqProofs only [go_sem] at g5
   try simp -implicitDefEqProofs only [go_sem] at g6
   obtain ⟨r9, q7, h⟩ := bnd_some h
   have w8 := e154 x2.kind r9 q7
   try simp -implicitDefEqProofs only [go_sem] at w8
   obtain ⟨v18, q16, h⟩ := bnd_some h
   have w17 := e143_1 rc hrc a0 a1 r9 x2 v18 q16
   simp only [X143_1] at w17
   try simp -implicitDefEqProofs only [go_sem] at w17
   try simp -implicitDefEqProofs only [go_sem, i143, c143, b1, g4, g5, g6, w8, w17]
   cases b19 : (v18 : Bool)
   · replace h := br_f b19 h
     try simp -implicitDefEqProofs only [go_sem, i143, c143, b1, g4, g5, g6, w8, w17, b19]
     obtain ⟨o, q37, h⟩ := bnd_some h
     rcases o with ⟨v39, v40⟩ | ⟨⟩
     · replace h := selS_l h
       replace h := sel2_some h
       have w38 := e143_2 rc hrc a0 x2 (wadd .i64 a1 1, r9, []) (.inl (v39, v40)) q37
       simp only [E143_2, X143_2] at w38
       try simp -implicitDefEqProofs only [go_sem] at w38
       cases h
       simp -implicitDefEqProofs only [go_sem, i143, c143, b1, g4, g5, g6, w8, w17, b19, w38]
     · replace h := selS_r h
       have w38 := e143_2 rc hrc a0 x2 (wadd .i64 a1 1, r9, []) (.inr ()) q37
       simp only [E143_2, X143_2] at w38
       try simp -implicitDefEqProofs only [go_sem] at w38
       cases h
       simp -implicitDefEqProofs only [go_sem, i143, c143, b1, g4, g5, g6, w8, w17, b19, w38]
   · replace h := br_t b19 h
     cases h
     simp -implicitDefEqProofs only [go_sem, i143, c143, b1, g4, g5, g6, w8, w17, b19]
 · replace h := br_t b1 h
   cases h
   simp -implicitDefEqProofs only [go_sem, i143, c143, b1]
theorem e143k : ∀ (k : Nat) (a0 : (List ReCell)) (a1 : Int) (r : (l6T × Int)) (h : m143k k a0 a1 = some r), evFL T 143 [.ts .imm 2 (a0.map encReCell), .int .i64 a1] [] = some (.tup [.agg [.int .i64 r.1.kind_, .int .i64 r.1.n_, .sl 0 0 r.1.kids_.length], .int .i64 r.2], [some ⟨.arr, 3, r.1.kids_.map (encl6T .own)⟩]) := by
 intro k
 induction k with
 | zero => intro a0 a1 r h; cases h
 | succ k ih => intro a0 a1 r h; exact e143r (m143k k) (fun a0 a1 r h => ih a0 a1 r h) a0 a1 r h
theorem e143 (a0 : (List ReCell)) (a1 : Int) (r : (l6T × Int)) (h : m143 a0 a1 = some r) : evFL T 143 [.ts .imm 2 (a0.map encReCell), .int .i64 a1] [] = some (.tup [.agg [.int .i64 r.1.kind_, .int .i64 r.1.n_, .sl 0 0 r.1.kids_.length], .int .i64 r.2], [some ⟨.arr, 3, r.1.kids_.map (encl6T .own)⟩]) := by
 obtain ⟨N, hN⟩ := limO_iff.1 h
 exact e143k N a0 a1 r (hN N (Nat.le_refl N))
theorem call122 (args : List AV) (S : St) : evCall T (evFL T) 122 args S = lendC (evFL T 122) S (lendAll S [[2]] args) := evCall0 fn122 rfl rfl rfl args S
theorem callz122 (args : List AV) (S : St) : evCallFz T (evFL T) 122 args S = lendZ (evFL T 122) S [[0, 0, 3], [0]] (lendAll S [[2]] args) := evCallFz0 fn122 rfl rfl rfl args S
attribute [go_sem] call122 callz122
noncomputable def X122_1 (a0 : (List ReCell)) (r5 : Int) (r4 : l6T) (o : Bool) : Ex × Fr × St :=
 (.normal, frOf 24 (upd (upd anyF 2 (.ptr 0 0 0)) 3 (.bool o)), [some ⟨.box, 3, [[.int .i64 r4.kind_, .int .i64 r4.n_, .sl 1 0 r4.kids_.length]]⟩, some ⟨.arr, 3, r4.kids_.map (encl6T .own)⟩])
theorem e122_1 (a0 : (List ReCell)) (r5 : Int) (r4 : l6T) (o : Bool) (h : m122_1 a0 r5 = some o) : evCL T 0 k122_1 (frOf 24 (upd (upd (upd (upd anyF 0 (.ts .imm 2 (a0.map encReCell))) 2 (.ptr 0 0 0)) 4 (.ptr 2 0 0)) 5 (.int .i64 r5))) [some ⟨.box, 3, [[.int .i64 0, .int .i64 0, .sl 1 0 0]]⟩, some ⟨.arr, 3, []⟩, some ⟨.box, 3, [[.int .i64 r4.kind_, .int .i64 r4.n_, .sl 3 0 r4.kids_.length]]⟩, some ⟨.arr, 3, r4.kids_.map (encl6T .own)⟩] = some (X122_1 a0 r5 r4 o) := by
 unfold m122_1 at h
 try simp -implicitDefEqProofs only [go_sem, X122_1, k122_1]
 cases b6 : (ltI 0 r5 : Bool)
 · replace h := br_f b6 h
   cases h
   simp -implicitDefEqProofs only [go_sem, X122_1, k122_1, b6]
 · replace h := br_t b6 h
   cases h
   simp -implicitDefEqProofs only [go_sem, X122_1, k122_1, b6]
theorem e122 (a0 : (List ReCell)) (r : (l6T × Bool)) (h : m122 a0 = some r) : evFL T 122 [.ts .imm 2 (a0.map encReCell)] [] = some (.tup [.agg [.int .i64 r.1.kind_, .int .i64 r.1.n_, .sl 0 0 r.1.kids_.length], .bool r.2], [some ⟨.arr, 3, r.1.kids_.map (encl6T .own)⟩]) := by
 unfold m122 at h
 rw [evFL_at fn122 (Nat.le_of_ble_eq_true rfl) rfl (.inr rfl) ⟨rfl, rfl⟩]
 try simp -implicitDefEqProofs only [go_sem, i122, c122]
 cases b1 : (ltI 30 (↑a0.length : Int) : Bool)
 · replace h := br_f b1 h
   obtain ⟨⟨r4, r5⟩, q2, h⟩ := bnd_some h
   replace h := sel2_some h
   have w3 := e143 a0 0 (r4, r5) q2
   try simp -implicitDefEqProofs only [go_sem] at w3
   obtain ⟨v9, q7, h⟩ := bnd_some h
   have w8 := e122_1 a0 r5 r4 v9 q7
   simp only [X122_1] at w8
   try simp -implicitDefEqProofs only [go_sem] at w8
   cases h
   simp -implicitDefEqProofs only [go_sem, i122, c122, b1, w3, w8]
 · replace h := br_t b1 h
   cases h
   simp -implicitDefEqProofs only [go_sem, i122, c122, b1]
theorem call82 (args : List AV) (S : St) : evCall T (evFL T) 82 args S = lendC (evFL T 82) S (lendAll S [[2]] args) := evCall0 fn82 rfl rfl rfl args S
theorem callz82 (args : List AV) (S : St) : evCallFz T (evFL T) 82 args S = lendZ (evFL T 82) S [[0]] (lendAll S [[2]] args) := evCallFz0 fn82 rfl rfl rfl args S
attribute [go_sem] call82 callz82
theorem e82 (a0 : (List ReCell)) (r : Bool) (h : m82 a0 = some r) : evFL T 82 [.ts .imm 2 (a0.map encReCell)] [] = some (.bool r, []) := by
 unfold m82 at h
 rw [evFL_at fn82 (Nat.le_of_ble_eq_true rfl) rfl (.inr rfl) ⟨rfl, rfl⟩]
 obtain ⟨⟨r3, r4⟩, q1, h⟩ := bnd_some h
 replace h := sel2_some h
 have w2 := e122 a0 (r3, r4) q1
 try simp -implicitDefEqProofs only [go_sem] at w2
 cases h
 simp -implicitDefEqProofs only [go_sem, i82, c82, w2]
theorem call42 (args : List AV) (S : St) : evCall T (evFL T) 42 args S = lendC (evFL T 42) S (lendAll S [[4, 2, 0, 2, 0]] args) := evCall0 fn42 rfl rfl rfl args S
theorem callz42 (args : List AV) (S : St) : evCallFz T (evFL T) 42 args S = lendZ (evFL T 42) S [[0]] (lendAll S [[4, 2, 0, 2, 0]] args) := evCallFz0 fn42 rfl rfl rfl args S
attribute [go_sem] call42 callz42
noncomputable def X42_3 (a0 : Term) (p1 : Int) (s23 : Int) (x25 : Range) (o : Bool) : Ex × Fr × St :=
 (.normal, frOf 78 (upd (upd (upd (upd (upd anyF 1 (.ptr 0 0 0)) 8 (.ts .imm 4 (a0.ranges.map encRange))) 9 (.int .i64 p1)) 10 (.int .i64 s23)) 34 (.bool o)), [some ⟨.box, 5, [[.ts .imm 4 (a0.ranges.map encRange), .ts .imm 2 (a0.path.map encReCell), .int .i64 a0.comm, .ts .imm 2 (a0.acts.map encAcn), .int .i64 a0.verdict]]⟩])
theorem e42_3 (a0 : Term) (p1 : Int) (s23 : Int) (x25 : Range) (o : Bool) (h : m42_3 x25 = some o) : evCL T 0 k42_3 (frOf 78 (upd (upd (upd (upd (upd anyF 1 (.ptr 0 0 0)) 4 (.ptr 1 0 0)) 8 (.ts .imm 4 (a0.ranges.map encRange))) 9 (.int .i64 p1)) 10 (.int .i64 s23))) [some ⟨.box, 5, [[.ts .imm 4 (a0.ranges.map encRange), .ts .imm 2 (a0.path.map encReCell), .int .i64 a0.comm, .ts .imm 2 (a0.acts.map encAcn), .int .i64 a0.verdict]]⟩, some ⟨.box, 4, [[.int .i64 x25.prefix_.addr, .int .i64 x25.prefix_.len, .int .i64 x25.lo, .int .i64 x25.hi]]⟩] = some (X42_3 a0 p1 s23 x25 o) := by
 unfold m42_3 at h
 obtain ⟨r32, q30, h⟩ := bnd_some h
 have w31 := e33 x25.prefix_ r32 q30
 try simp -implicitDefEqProofs only [go_sem] at w31
 try simp -implicitDefEqProofs only [go_sem, X42_3, k42_3, w31]
 cases b33 : (r32 : Bool)
 · replace h := br_f b33 h
   cases h
   simp -implicitDefEqProofs only [go_sem, X42_3, k42_3, w31, b33]
 · replace h := br_t b33 h
   obtain ⟨r36, q34, h⟩ := bnd_some h
   have w35 := e71 x25.lo x25.prefix_.len 32 r36 q34
   try simp -implicitDefEqProofs only [go_sem] at w35
   try simp -implicitDefEqProofs only [go_sem, X42_3, k42_3, w31, b33, w35]
   cases b37 : (r36 : Bool)
   · replace h := br_f b37 h
     cases h
     simp -implicitDefEqProofs only [go_sem, X42_3, k42_3, w31, b33, w35, b37]
   · replace h := br_t b37 h
     obtain ⟨r40, q38, h⟩ := bnd_some h
     have w39 := e71 x25.hi x25.lo 32 r40 q38
     try simp -implicitDefEqProofs only [go_sem] at w39
     cases h
     simp -implicitDefEqProofs only [go_sem, X42_3, k42_3, w31, b33, w35, b37, w39]
noncomputable def X42_1 (a0 : Term) (p1 : Int) (o : (Unit ⊕ Unit)) : Ex × Fr × St :=
 match o with
 | .inl o => (.exit 0, frOf 78 (upd anyF 1 (.ptr 0 0 0)), [some ⟨.box, 5, [[.ts .imm 4 (a0.ranges.map encRange), .ts .imm 2 (a0.path.map encReCell), .int .i64 a0.comm, .ts .imm 2 (a0.acts.map encAcn), .int .i64 a0.verdict]]⟩])
 | .inr o => (.ret, frOf 78 (upd anyF 2 (.bool false)), [])
noncomputable def E42_1 (a0 : Term) (p1 : Int) (s : Int) : Fr × St := (frOf 78 (upd (upd (upd (upd anyF 1 (.ptr 0 0 0)) 8 (.ts .imm 4 (a0.ranges.map encRange))) 9 (.int .i64 p1)) 10 (.int .i64 s)), [some ⟨.box, 5, [[.ts .imm 4 (a0.ranges.map encRange), .ts .imm 2 (a0.path.map encReCell), .int .i64 a0.comm, .ts .imm 2 (a0.acts.map encAcn), .int .i64 a0.verdict]]⟩])
theorem b42_1 (a0 : Term) (p1 : Int) (s : Int) (o : Ctl Int (Unit ⊕ Unit)) (h : m42_1b a0 p1 s = some o) : evCL T 0 k42_1b (E42_1 a0 p1 s).1 (E42_1 a0 p1 s).2 = some (ctlX (E42_1 a0 p1) (X42_1 a0 p1) o) := by
 unfold m42_1b at h
 revert h
 generalize s = s23
 intro h
 try simp -implicitDefEqProofs only [go_sem, E42_1, X42_1, k42_1b]
 cases b24 : (ltI s23 p1 : Bool)
 · replace h := br_f b24 h
   cases h
   simp -implicitDefEqProofs only [go_sem, E42_1, X42_1, k42_1b, b24]
 · replace h := br_t b24 h
   obtain ⟨x25, q26, h⟩ := bnd_some h
   obtain ⟨g27, g28, g29⟩ := idx_row encRange q26
   try simp -implicitDefEqProofs only [go_sem] at g28
   try simp -implicitDefEqProofs only [go_sem] at g29
   obtain ⟨v43, q41, h⟩ := bnd_some h
   have w42 := e42_3 a0 p1 s23 x25 v43 q41
   simp only [X42_3] at w42
   try simp -implicitDefEqProofs only [go_sem] at w42
   try simp -implicitDefEqProofs only [go_sem, E42_1, X42_1, k42_1b, b24, g27, g28, g29, w42]
   cases b44 : (v43 : Bool)
   · replace h := br_f b44 h
     cases h
     simp -implicitDefEqProofs only [go_sem, E42_1, X42_1, k42_1b, b24, g27, g28, g29, w42, b44]
   · replace h := br_t b44 h
     cases h
     simp -implicitDefEqProofs only [go_sem, E42_1, X42_1, k42_1b, b24, g27, g28, g29, w42, b44]
theorem e42_1 (a0 : Term) (p1 : Int) (s : Int) (o : (Unit ⊕ Unit)) (h : loopP (m42_1b a0 p1) s = some o) : evCL T 0 (.loop k42_1b) (E42_1 a0 p1 s).1 (E42_1 a0 p1 s).2 = some (X42_1 a0 p1 o) :=
 loop_walk (E := E42_1 a0 p1) (X := X42_1 a0 p1) (by intro b; rcases b with b | b <;> (simp only [X42_1]; nofun)) (b42_1 a0 p1) s o h
noncomputable def X42_4 (a0 : Term) (p47 : Int) (o : (Unit ⊕ Unit)) : Ex × Fr × St :=
 match o with
 | .inl o => (.exit 2, frOf 78 (upd anyF 1 (.ptr 0 0 0)), [some ⟨.box, 5, [[.ts .imm 4 (a0.ranges.map encRange), .ts .imm 2 (a0.path.map encReCell), .int .i64 a0.comm, .ts .imm 2 (a0.acts.map encAcn), .int .i64 a0.verdict]]⟩])
 | .inr o => (.ret, frOf 78 (upd anyF 2 (.bool false)), [])
noncomputable def E42_4 (a0 : Term) (p47 : Int) (s : Int) : Fr × St := (frOf 78 (upd (upd (upd (upd anyF 1 (.ptr 0 0 0)) 37 (.ts .imm 2 (a0.acts.map encAcn))) 38 (.int .i64 p47)) 39 (.int .i64 s)), [some ⟨.box, 5, [[.ts .imm 4 (a0.ranges.map encRange), .ts .imm 2 (a0.path.map encReCell), .int .i64 a0.comm, .ts .imm 2 (a0.acts.map encAcn), .int .i64 a0.verdict]]⟩])
theorem b42_4 (a0 : Term) (p47 : Int) (s : Int) (o : Ctl Int (Unit ⊕ Unit)) (h : m42_4b a0 p47 s = some o) : evCL T 0 k42_4b (E42_4 a0 p47 s).1 (E42_4 a0 p47 s).2 = some (ctlX (E42_4 a0 p47) (X42_4 a0 p47) o) := by
 unfold m42_4b at h
 revert h
 generalize s = s58
 intro h
 try simp -implicitDefEqProofs only [go_sem, E42_4, X42_4, k42_4b]
 cases b59 : (ltI s58 p47 : Bool)
 · replace h := br_f b59 h
   cases h
   simp -implicitDefEqProofs only [go_sem, E42_4, X42_4, k42_4b, b59]
 · replace h := br_t b59 h
   obtain ⟨x60, q61, h⟩ := bnd_some h
   obtain ⟨g62, g63, g64⟩ := idx_row encAcn q61
   try simp -implicitDefEqProofs only [go_sem] at g63
   try simp -implicitDefEqProofs only [go_sem] at g64
   obtain ⟨r67, q65, h⟩ := bnd_some h
   have w66 := e48 x60 r67 q65
   try simp -implicitDefEqProofs only [go_sem] at w66
   try simp -implicitDefEqProofs only [go_sem, E42_4, X42_4, k42_4b, b59, g62, g63, g64, w66]
   cases b68 : (r67 : Bool)
   · replace h := br_f b68 h
     cases h
     simp -implicitDefEqProofs only [go_sem, E42_4, X42_4, k42_4b, b59, g62, g63, g64, w66, b68]
   · replace h := br_t b68 h
     cases h
     simp -implicitDefEqProofs only [go_sem, E42_4, X42_4, k42_4b, b59, g62, g63, g64, w66, b68]
theorem e42_4 (a0 : Term) (p47 : Int) (s : Int) (o : (Unit ⊕ Unit)) (h : loopP (m42_4b a0 p47) s = some o) : evCL T 0 (.loop k42_4b) (E42_4 a0 p47 s).1 (E42_4 a0 p47 s).2 = some (X42_4 a0 p47 o) :=
 loop_walk (E := E42_4 a0 p47) (X := X42_4 a0 p47) (by intro b; rcases b with b | b <;> (simp only [X42_4]; nofun)) (b42_4 a0 p47) s o h
noncomputable def X42_5 (a0 : Term) (o : Bool) : Ex × Fr × St :=
 (.normal, frOf 78 (upd anyF 2 (.bool o)), [])
theorem e42_5 (a0 : Term) (o : Bool) (h : m42_5 a0 = some o) : evCL T 0 k42_5 (frOf 78 (upd anyF 1 (.ptr 0 0 0))) [some ⟨.box, 5, [[.ts .imm 4 (a0.ranges.map encRange), .ts .imm 2 (a0.path.map encReCell), .int .i64 a0.comm, .ts .imm 2 (a0.acts.map encAcn), .int .i64 a0.verdict]]⟩] = some (X42_5 a0 o) := by
 unfold m42_5 at h
 try simp -implicitDefEqProofs only [go_sem, X42_5, k42_5]
 cases b71 : (leI (↑a0.ranges.length : Int) 6 : Bool)
 · replace h := br_f b71 h
   cases h
   simp -implicitDefEqProofs only [go_sem, X42_5, k42_5, b71]
 · replace h := br_t b71 h
   try simp -implicitDefEqProofs only [go_sem, X42_5, k42_5, b71]
   cases b72 : (leI (↑a0.acts.length : Int) 5 : Bool)
   · replace h := br_f b72 h
     cases h
     simp -implicitDefEqProofs only [go_sem, X42_5, k42_5, b71, b72]
   · replace h := br_t b72 h
     try simp -implicitDefEqProofs only [go_sem, X42_5, k42_5, b71, b72]
     cases b73 : (eqI (↑a0.path.length : Int) 0 : Bool)
     · replace h := br_f b73 h
       obtain ⟨r83, q81, h⟩ := bnd_some h
       have w82 := e82 a0.path r83 q81
       try simp -implicitDefEqProofs only [go_sem] at w82
       try simp -implicitDefEqProofs only [go_sem, X42_5, k42_5, b71, b72, b73, w82]
       cases b84 : (r83 : Bool)
       · replace h := br_f b84 h
         cases h
         simp -implicitDefEqProofs only [go_sem, X42_5, k42_5, b71, b72, b73, w82, b84]
       · replace h := br_t b84 h
         obtain ⟨r87, q85, h⟩ := bnd_some h
         have w86 := e71 a0.comm (-1) 1000000 r87 q85
         try simp -implicitDefEqProofs only [go_sem] at w86
         try simp -implicitDefEqProofs only [go_sem, X42_5, k42_5, b71, b72, b73, w82, b84, w86]
         cases b88 : (r87 : Bool)
         · replace h := br_f b88 h
           cases h
           simp -implicitDefEqProofs only [go_sem, X42_5, k42_5, b71, b72, b73, w82, b84, w86, b88]
         · replace h := br_t b88 h
           obtain ⟨r91, q89, h⟩ := bnd_some h
           have w90 := e71 a0.verdict 0 2 r91 q89
           try simp -implicitDefEqProofs only [go_sem] at w90
           cases h
           simp -implicitDefEqProofs only [go_sem, X42_5, k42_5, b71, b72, b73, w82, b84, w86, b88, w90]
     · replace h := br_t b73 h
       obtain ⟨r76, q74, h⟩ := bnd_some h
       have w75 := e71 a0.comm (-1) 1000000 r76 q74
       try simp -implicitDefEqProofs only [go_sem] at w75
       try simp -implicitDefEqProofs only [go_sem, X42_5, k42_5, b71, b72, b73, w75]
       cases b77 : (r76 : Bool)
       · replace h := br_f b77 h
         cases h
         simp -implicitDefEqProofs only [go_sem, X42_5, k42_5, b71, b72, b73, w75, b77]
       · replace h := br_t b77 h
         obtain ⟨r80, q78, h⟩ := bnd_some h
         have w79 := e71 a0.verdict 0 2 r80 q78
         try simp -implicitDefEqProofs only [go_sem] at w79
         cases h
         simp -implicitDefEqProofs only [go_sem, X42_5, k42_5, b71, b72, b73, w75, b77, w79]
theorem e42 (a0 : Term) (r : Bool) (h : m42 a0 = some r) : evFL T 42 [.agg [.ts .imm 4 (a0.ranges.map encRange), .ts .imm 2 (a0.path.map encReCell), .int .i64 a0.comm, .ts .imm 2 (a0.acts.map encAcn), .int .i64 a0.verdict]] [] = some (.bool r, []) := by
 unfold m42 at h
 rw [evFL_at fn42 (Nat.le_of_ble_eq_true rfl) rfl (.inr rfl) ⟨rfl, rfl⟩]
 try simp -implicitDefEqProofs only [go_sem, i42, c42]
 obtain ⟨o, q45, h⟩ := bnd_some h
 rcases o with ⟨⟩ | ⟨⟩
 · replace h := selS_l h
   have w46 := e42_1 a0 (↑a0.ranges.length : Int) 0 (.inl ()) q45
   simp only [E42_1, X42_1] at w46
   try simp -implicitDefEqProofs only [go_sem] at w46
   try simp -implicitDefEqProofs only [go_sem, i42, c42, w46]
   obtain ⟨o, q69, h⟩ := bnd_some h
   rcases o with ⟨⟩ | ⟨⟩
   · replace h := selS_l h
     have w70 := e42_4 a0 (↑a0.acts.length : Int) 0 (.inl ()) q69
     simp only [E42_4, X42_4] at w70
     try simp -implicitDefEqProofs only [go_sem] at w70
     obtain ⟨v94, q92, h⟩ := bnd_some h
     have w93 := e42_5 a0 v94 q92
     simp only [X42_5] at w93
     try simp -implicitDefEqProofs only [go_sem] at w93
     cases h
     simp -implicitDefEqProofs only [go_sem, i42, c42, w46, w70, w93]
   · replace h := selS_r h
     have w70 := e42_4 a0 (↑a0.acts.length : Int) 0 (.inr ()) q69
     simp only [E42_4, X42_4] at w70
     try simp -implicitDefEqProofs only [go_sem] at w70
     cases h
     simp -implicitDefEqProofs only [go_sem, i42, c42, w46, w70]
 · replace h := selS_r h
   have w46 := e42_1 a0 (↑a0.ranges.length : Int) 0 (.inr ()) q45
   simp only [E42_1, X42_1] at w46
   try simp -implicitDefEqProofs only [go_sem] at w46
   cases h
   simp -implicitDefEqProofs only [go_sem, i42, c42, w46]
theorem call34 (args : List AV) (S : St) : evCall T (evFL T) 34 args S = lendC (evFL T 34) S (lendAll S [[0, 1, 0, 0, 0, 1]] args) := evCall0 fn34 rfl rfl rfl args S
theorem callz34 (args : List AV) (S : St) : evCallFz T (evFL T) 34 args S = lendZ (evFL T 34) S [[0]] (lendAll S [[0, 1, 0, 0, 0, 1]] args) := evCallFz0 fn34 rfl rfl rfl args S
attribute [go_sem] call34 callz34
noncomputable def X34_1 (a0 : Attrs) (p1 : Int) (o : (Unit ⊕ Unit)) : Ex × Fr × St :=
 match o with
 | .inl o => (.exit 0, frOf 74 (upd anyF 1 (.ptr 0 0 0)), [some ⟨.box, 6, [[.int .i64 a0.origin, .ts .imm 1 (a0.path.map encInt), .int .i64 a0.next, .int .i64 a0.med, .int .i64 a0.pref, .ts .imm 1 (a0.comms.map encInt)]]⟩])
 | .inr o => (.ret, frOf 74 (upd anyF 2 (.bool false)), [])
noncomputable def E34_1 (a0 : Attrs) (p1 : Int) (s : Int) : Fr × St := (frOf 74 (upd (upd (upd (upd anyF 1 (.ptr 0 0 0)) 8 (.ts .imm 1 (a0.path.map encInt))) 9 (.int .i64 p1)) 10 (.int .i64 s)), [some ⟨.box, 6, [[.int .i64 a0.origin, .ts .imm 1 (a0.path.map encInt), .int .i64 a0.next, .int .i64 a0.med, .int .i64 a0.pref, .ts .imm 1 (a0.comms.map encInt)]]⟩])
theorem b34_1 (a0 : Attrs) (p1 : Int) (s : Int) (o : Ctl Int (Unit ⊕ Unit)) (h : m34_1b a0 p1 s = some o) : evCL T 0 k34_1b (E34_1 a0 p1 s).1 (E34_1 a0 p1 s).2 = some (ctlX (E34_1 a0 p1) (X34_1 a0 p1) o) := by
 unfold m34_1b at h
 revert h
 generalize s = s12
 intro h
 try simp -implicitDefEqProofs only [go_sem, E34_1, X34_1, k34_1b]
 cases b13 : (ltI s12 p1 : Bool)
 · replace h := br_f b13 h
   cases h
   simp -implicitDefEqProofs only [go_sem, E34_1, X34_1, k34_1b, b13]
 · replace h := br_t b13 h
   obtain ⟨x14, q15, h⟩ := bnd_some h
   obtain ⟨g16, g17, g18⟩ := idx_row encInt q15
   try simp -implicitDefEqProofs only [go_sem] at g17
   try simp -implicitDefEqProofs only [go_sem] at g18
   obtain ⟨r21, q19, h⟩ := bnd_some h
   have w20 := e71 x14 1 65535 r21 q19
   try simp -implicitDefEqProofs only [go_sem] at w20
   try simp -implicitDefEqProofs only [go_sem, E34_1, X34_1, k34_1b, b13, g16, g17, g18, w20]
   cases b22 : (r21 : Bool)
   · replace h := br_f b22 h
     cases h
     simp -implicitDefEqProofs only [go_sem, E34_1, X34_1, k34_1b, b13, g16, g17, g18, w20, b22]
   · replace h := br_t b22 h
     cases h
     simp -implicitDefEqProofs only [go_sem, E34_1, X34_1, k34_1b, b13, g16, g17, g18, w20, b22]
theorem e34_1 (a0 : Attrs) (p1 : Int) (s : Int) (o : (Unit ⊕ Unit)) (h : loopP (m34_1b a0 p1) s = some o) : evCL T 0 (.loop k34_1b) (E34_1 a0 p1 s).1 (E34_1 a0 p1 s).2 = some (X34_1 a0 p1 o) :=
 loop_walk (E := E34_1 a0 p1) (X := X34_1 a0 p1) (by intro b; rcases b with b | b <;> (simp only [X34_1]; nofun)) (b34_1 a0 p1) s o h
noncomputable def X34_4 (s46 : Int) (x48 : Int) (a0 : Attrs) (p25 : Int) (o : Bool) : Ex × Fr × St :=
 (.normal, frOf 74 (upd (upd (upd (upd (upd anyF 1 (.ptr 0 0 0)) 19 (.ts .imm 1 (a0.comms.map encInt))) 20 (.int .i64 p25)) 21 (.int .i64 s46)) 42 (.bool o)), [some ⟨.box, 6, [[.int .i64 a0.origin, .ts .imm 1 (a0.path.map encInt), .int .i64 a0.next, .int .i64 a0.med, .int .i64 a0.pref, .ts .imm 1 (a0.comms.map encInt)]]⟩])
theorem e34_4 (s46 : Int) (x48 : Int) (a0 : Attrs) (p25 : Int) (o : Bool) (h : m34_4 s46 x48 a0 = some o) : evCL T 0 k34_4 (frOf 74 (upd (upd (upd (upd (upd (upd anyF 1 (.ptr 0 0 0)) 5 (.int .i64 s46)) 6 (.int .i64 x48)) 19 (.ts .imm 1 (a0.comms.map encInt))) 20 (.int .i64 p25)) 21 (.int .i64 s46))) [some ⟨.box, 6, [[.int .i64 a0.origin, .ts .imm 1 (a0.path.map encInt), .int .i64 a0.next, .int .i64 a0.med, .int .i64 a0.pref, .ts .imm 1 (a0.comms.map encInt)]]⟩] = some (X34_4 s46 x48 a0 p25 o) := by
 unfold m34_4 at h
 obtain ⟨r55, q53, h⟩ := bnd_some h
 have w54 := e71 x48 0 1000000 r55 q53
 try simp -implicitDefEqProofs only [go_sem] at w54
 try simp -implicitDefEqProofs only [go_sem, X34_4, k34_4, w54]
 cases b56 : (r55 : Bool)
 · replace h := br_f b56 h
   cases h
   simp -implicitDefEqProofs only [go_sem, X34_4, k34_4, w54, b56]
 · replace h := br_t b56 h
   try simp -implicitDefEqProofs only [go_sem, X34_4, k34_4, w54, b56]
   cases b57 : (ltI 0 s46 : Bool)
   · replace h := br_f b57 h
     cases h
     simp -implicitDefEqProofs only [go_sem, X34_4, k34_4, w54, b56, b57]
   · replace h := br_t b57 h
     obtain ⟨x58, q59, h⟩ := bnd_some h
     obtain ⟨g60, g61, g62⟩ := idx_row encInt q59
     try simp -implicitDefEqProofs only [go_sem] at g61
     try simp -implicitDefEqProofs only [go_sem] at g62
     cases h
     simp -implicitDefEqProofs only [go_sem, X34_4, k34_4, w54, b56, b57, g60, g61, g62]
noncomputable def X34_2 (a0 : Attrs) (p25 : Int) (o : (Unit ⊕ Unit)) : Ex × Fr × St :=
 match o with
 | .inl o => (.exit 2, frOf 74 (upd anyF 1 (.ptr 0 0 0)), [some ⟨.box, 6, [[.int .i64 a0.origin, .ts .imm 1 (a0.path.map encInt), .int .i64 a0.next, .int .i64 a0.med, .int .i64 a0.pref, .ts .imm 1 (a0.comms.map encInt)]]⟩])
 | .inr o => (.ret, frOf 74 (upd anyF 2 (.bool false)), [])
noncomputable def E34_2 (a0 : Attrs) (p25 : Int) (s : Int) : Fr × St := (frOf 74 (upd (upd (upd (upd anyF 1 (.ptr 0 0 0)) 19 (.ts .imm 1 (a0.comms.map encInt))) 20 (.int .i64 p25)) 21 (.int .i64 s)), [some ⟨.box, 6, [[.int .i64 a0.origin, .ts .imm 1 (a0.path.map encInt), .int .i64 a0.next, .int .i64 a0.med, .int .i64 a0.pref, .ts .imm 1 (a0.comms.map encInt)]]⟩])
theorem b34_2 (a0 : Attrs) (p25 : Int) (s : Int) (o : Ctl Int (Unit ⊕ Unit)) (h : m34_2b a0 p25 s = some o) : evCL T 0 k34_2b (E34_2 a0 p25 s).1 (E34_2 a0 p25 s).2 = some (ctlX (E34_2 a0 p25) (X34_2 a0 p25) o) := by
 unfold m34_2b at h
 revert h
 generalize s = s46
 intro h
 try simp -implicitDefEqProofs only [go_sem, E34_2, X34_2, k34_2b]
 cases b47 : (ltI s46 p25 : Bool)
 · replace h := br_f b47 h
   cases h
   simp -implicitDefEqProofs only [go_sem, E34_2, X34_2, k34_2b, b47]
 · replace h := br_t b47 h
   obtain ⟨x48, q49, h⟩ := bnd_some h
   obtain ⟨g50, g51, g52⟩ := idx_row encInt q49
   try simp -implicitDefEqProofs only [go_sem] at g51
   try simp -implicitDefEqProofs only [go_sem] at g52
   obtain ⟨v65, q63, h⟩ := bnd_some h
   have w64 := e34_4 s46 x48 a0 p25 v65 q63
   simp only [X34_4] at w64
   try simp -implicitDefEqProofs only [go_sem] at w64
   try simp -implicitDefEqProofs only [go_sem, E34_2, X34_2, k34_2b, b47, g50, g51, g52, w64]
   cases b66 : (v65 : Bool)
   · replace h := br_f b66 h
     cases h
     simp -implicitDefEqProofs only [go_sem, E34_2, X34_2, k34_2b, b47, g50, g51, g52, w64, b66]
   · replace h := br_t b66 h
     cases h
     simp -implicitDefEqProofs only [go_sem, E34_2, X34_2, k34_2b, b47, g50, g51, g52, w64, b66]
theorem e34_2 (a0 : Attrs) (p25 : Int) (s : Int) (o : (Unit ⊕ Unit)) (h : loopP (m34_2b a0 p25) s = some o) : evCL T 0 (.loop k34_2b) (E34_2 a0 p25 s).1 (E34_2 a0 p25 s).2 = some (X34_2 a0 p25 o) :=
 loop_walk (E := E34_2 a0 p25) (X := X34_2 a0 p25) (by intro b; rcases b with b | b <;> (simp only [X34_2]; nofun)) (b34_2 a0 p25) s o h
noncomputable def X34_5 (a0 : Attrs) (o : Bool) : Ex × Fr × St :=
 (.normal, frOf 74 (upd anyF 2 (.bool o)), [])
theorem e34_5 (a0 : Attrs) (o : Bool) (h : m34_5 a0 = some o) : evCL T 0 k34_5 (frOf 74 (upd anyF 1 (.ptr 0 0 0))) [some ⟨.box, 6, [[.int .i64 a0.origin, .ts .imm 1 (a0.path.map encInt), .int .i64 a0.next, .int .i64 a0.med, .int .i64 a0.pref, .ts .imm 1 (a0.comms.map encInt)]]⟩] = some (X34_5 a0 o) := by
 unfold m34_5 at h
 obtain ⟨r71, q69, h⟩ := bnd_some h
 have w70 := e71 a0.origin 0 2 r71 q69
 try simp -implicitDefEqProofs only [go_sem] at w70
 try simp -implicitDefEqProofs only [go_sem, X34_5, k34_5, w70]
 cases b72 : (r71 : Bool)
 · replace h := br_f b72 h
   cases h
   simp -implicitDefEqProofs only [go_sem, X34_5, k34_5, w70, b72]
 · replace h := br_t b72 h
   try simp -implicitDefEqProofs only [go_sem, X34_5, k34_5, w70, b72]
   cases b73 : (leI (↑a0.path.length : Int) 10 : Bool)
   · replace h := br_f b73 h
     cases h
     simp -implicitDefEqProofs only [go_sem, X34_5, k34_5, w70, b72, b73]
   · replace h := br_t b73 h
     obtain ⟨r76, q74, h⟩ := bnd_some h
     have w75 := e72 a0.next r76 q74
     try simp -implicitDefEqProofs only [go_sem] at w75
     try simp -implicitDefEqProofs only [go_sem, X34_5, k34_5, w70, b72, b73, w75]
     cases b77 : (r76 : Bool)
     · replace h := br_f b77 h
       cases h
       simp -implicitDefEqProofs only [go_sem, X34_5, k34_5, w70, b72, b73, w75, b77]
     · replace h := br_t b77 h
       obtain ⟨r80, q78, h⟩ := bnd_some h
       have w79 := e71 a0.med 0 1000000 r80 q78
       try simp -implicitDefEqProofs only [go_sem] at w79
       try simp -implicitDefEqProofs only [go_sem, X34_5, k34_5, w70, b72, b73, w75, b77, w79]
       cases b81 : (r80 : Bool)
       · replace h := br_f b81 h
         cases h
         simp -implicitDefEqProofs only [go_sem, X34_5, k34_5, w70, b72, b73, w75, b77, w79, b81]
       · replace h := br_t b81 h
         obtain ⟨r84, q82, h⟩ := bnd_some h
         have w83 := e71 a0.pref 0 1000000 r84 q82
         try simp -implicitDefEqProofs only [go_sem] at w83
         try simp -implicitDefEqProofs only [go_sem, X34_5, k34_5, w70, b72, b73, w75, b77, w79, b81, w83]
         cases b85 : (r84 : Bool)
         · replace h := br_f b85 h
           cases h
           simp -implicitDefEqProofs only [go_sem, X34_5, k34_5, w70, b72, b73, w75, b77, w79, b81, w83, b85]
         · replace h := br_t b85 h
           cases h
           simp -implicitDefEqProofs only [go_sem, X34_5, k34_5, w70, b72, b73, w75, b77, w79, b81, w83, b85]
theorem e34 (a0 : Attrs) (r : Bool) (h : m34 a0 = some r) : evFL T 34 [.agg [.int .i64 a0.origin, .ts .imm 1 (a0.path.map encInt), .int .i64 a0.next, .int .i64 a0.med, .int .i64 a0.pref, .ts .imm 1 (a0.comms.map encInt)]] [] = some (.bool r, []) := by
 unfold m34 at h
 rw [evFL_at fn34 (Nat.le_of_ble_eq_true rfl) rfl (.inr rfl) ⟨rfl, rfl⟩]
 try simp -implicitDefEqProofs only [go_sem, i34, c34]
 obtain ⟨o, q23, h⟩ := bnd_some h
 rcases o with ⟨⟩ | ⟨⟩
 · replace h := selS_l h
   have w24 := e34_1 a0 (↑a0.path.length : Int) 0 (.inl ()) q23
   simp only [E34_1, X34_1] at w24
   try simp -implicitDefEqProofs only [go_sem] at w24
   try simp -implicitDefEqProofs only [go_sem, i34, c34, w24]
   obtain ⟨o, q67, h⟩ := bnd_some h
   rcases o with ⟨⟩ | ⟨⟩
   · replace h := selS_l h
     have w68 := e34_2 a0 (↑a0.comms.length : Int) 0 (.inl ()) q67
     simp only [E34_2, X34_2] at w68
     try simp -implicitDefEqProofs only [go_sem] at w68
     obtain ⟨v88, q86, h⟩ := bnd_some h
     have w87 := e34_5 a0 v88 q86
     simp only [X34_5] at w87
     try simp -implicitDefEqProofs only [go_sem] at w87
     cases h
     simp -implicitDefEqProofs only [go_sem, i34, c34, w24, w68, w87]
   · replace h := selS_r h
     have w68 := e34_2 a0 (↑a0.comms.length : Int) 0 (.inr ()) q67
     simp only [E34_2, X34_2] at w68
     try simp -implicitDefEqProofs only [go_sem] at w68
     cases h
     simp -implicitDefEqProofs only [go_sem, i34, c34, w24, w68]
 · replace h := selS_r h
   have w24 := e34_1 a0 (↑a0.path.length : Int) 0 (.inr ()) q23
   simp only [E34_1, X34_1] at w24
   try simp -implicitDefEqProofs only [go_sem] at w24
   cases h
   simp -implicitDefEqProofs only [go_sem, i34, c34, w24]
theorem call9 (args : List AV) (S : St) : evCall T (evFL T) 9 args S = lendC (evFL T 9) S (lendAll S [[0, 0, 0, 1, 0, 0, 0, 1]] args) := evCall0 fn9 rfl rfl rfl args S
theorem callz9 (args : List AV) (S : St) : evCallFz T (evFL T) 9 args S = lendZ (evFL T 9) S [[0]] (lendAll S [[0, 0, 0, 1, 0, 0, 0, 1]] args) := evCallFz0 fn9 rfl rfl rfl args S
attribute [go_sem] call9 callz9
noncomputable def X9_1 (a0 : Route) (o : Bool) : Ex × Fr × St :=
 (.normal, frOf 11 (upd anyF 2 (.bool o)), [])
theorem e9_1 (a0 : Route) (o : Bool) (h : m9_1 a0 = some o) : evCL T 0 k9_1 (frOf 11 (upd anyF 1 (.ptr 0 0 0))) [some ⟨.box, 8, [[.int .i64 a0.prefix_.addr, .int .i64 a0.prefix_.len, .int .i64 a0.attrs.origin, .ts .imm 1 (a0.attrs.path.map encInt), .int .i64 a0.attrs.next, .int .i64 a0.attrs.med, .int .i64 a0.attrs.pref, .ts .imm 1 (a0.attrs.comms.map encInt)]]⟩] = some (X9_1 a0 o) := by
 unfold m9_1 at h
 obtain ⟨r3, q1, h⟩ := bnd_some h
 have w2 := e33 a0.prefix_ r3 q1
 try simp -implicitDefEqProofs only [go_sem] at w2
 try simp -implicitDefEqProofs only [go_sem, X9_1, k9_1, w2]
 cases b4 : (r3 : Bool)
 · replace h := br_f b4 h
   cases h
   simp -implicitDefEqProofs only [go_sem, X9_1, k9_1, w2, b4]
 · replace h := br_t b4 h
   obtain ⟨r7, q5, h⟩ := bnd_some h
   have w6 := e34 a0.attrs r7 q5
   try simp -implicitDefEqProofs only [go_sem] at w6
   cases h
   simp -implicitDefEqProofs only [go_sem, X9_1, k9_1, w2, b4, w6]
theorem e9 (a0 : Route) (r : Bool) (h : m9 a0 = some r) : evFL T 9 [.agg [.int .i64 a0.prefix_.addr, .int .i64 a0.prefix_.len, .int .i64 a0.attrs.origin, .ts .imm 1 (a0.attrs.path.map encInt), .int .i64 a0.attrs.next, .int .i64 a0.attrs.med, .int .i64 a0.attrs.pref, .ts .imm 1 (a0.attrs.comms.map encInt)]] [] = some (.bool r, []) := by
 unfold m9 at h
 rw [evFL_at fn9 (Nat.le_of_ble_eq_true rfl) rfl (.inr rfl) ⟨rfl, rfl⟩]
 obtain ⟨v10, q8, h⟩ := bnd_some h
 have w9 := e9_1 a0 v10 q8
 simp only [X9_1] at w9
 try simp -implicitDefEqProofs only [go_sem] at w9
 cases h
 simp -implicitDefEqProofs only [go_sem, i9, c9, w9]
theorem call134 (args : List AV) (S : St) : evCall T (evFL T) 134 args S = lendC (evFL T 134) S (lendAll S [[0, 0], [0]] args) := evCall0 fn134 rfl rfl rfl args S
theorem callz134 (args : List AV) (S : St) : evCallFz T (evFL T) 134 args S = lendZ (evFL T 134) S [[0]] (lendAll S [[0, 0], [0]] args) := evCallFz0 fn134 rfl rfl rfl args S
attribute [go_sem] call134 callz134
theorem e134 (a0 : Prefix) (a1 : Int) (r : Bool) (h : m134 a0 a1 = some r) : evFL T 134 [.agg [.int .i64 a0.addr, .int .i64 a0.len], .int .i64 a1] [] = some (.bool r, []) := by
 unfold m134 at h
 rw [evFL_at fn134 (Nat.le_of_ble_eq_true rfl) rfl (.inr rfl) ⟨rfl, rfl⟩]
 obtain ⟨r3, q1, h⟩ := bnd_some h
 have w2 := e73 a0 r3 q1
 try simp -implicitDefEqProofs only [go_sem] at w2
 obtain ⟨g4, h⟩ := ck_some h
 try simp -implicitDefEqProofs only [go_sem] at g4
 cases h
 simp -implicitDefEqProofs only [go_sem, i134, c134, w2, g4]
theorem call108 (args : List AV) (S : St) : evCall T (evFL T) 108 args S = lendC (evFL T 108) S (lendAll S [[0, 0], [0, 0]] args) := evCall0 fn108 rfl rfl rfl args S
theorem callz108 (args : List AV) (S : St) : evCallFz T (evFL T) 108 args S = lendZ (evFL T 108) S [[0]] (lendAll S [[0, 0], [0, 0]] args) := evCallFz0 fn108 rfl rfl rfl args S
attribute [go_sem] call108 callz108
noncomputable def X108_1 (a0 : Prefix) (a1 : Prefix) (o : Bool) : Ex × Fr × St :=
 (.normal, frOf 16 (upd anyF 4 (.bool o)), [])
theorem e108_1 (a0 : Prefix) (a1 : Prefix) (o : Bool) (h : m108_1 a0 a1 = some o) : evCL T 0 k108_1 (frOf 16 (upd (upd anyF 2 (.ptr 0 0 0)) 3 (.ptr 1 0 0))) [some ⟨.box, 2, [[.int .i64 a0.addr, .int .i64 a0.len]]⟩, some ⟨.box, 2, [[.int .i64 a1.addr, .int .i64 a1.len]]⟩] = some (X108_1 a0 a1 o) := by
 unfold m108_1 at h
 try simp -implicitDefEqProofs only [go_sem, X108_1, k108_1]
 cases b1 : (leI a0.len a1.len : Bool)
 · replace h := br_f b1 h
   cases h
   simp -implicitDefEqProofs only [go_sem, X108_1, k108_1, b1]
 · replace h := br_t b1 h
   obtain ⟨r4, q2, h⟩ := bnd_some h
   have w3 := e134 a0 a1.addr r4 q2
   try simp -implicitDefEqProofs only [go_sem] at w3
   cases h
   simp -implicitDefEqProofs only [go_sem, X108_1, k108_1, b1, w3]
theorem e108 (a0 : Prefix) (a1 : Prefix) (r : Bool) (h : m108 a0 a1 = some r) : evFL T 108 [.agg [.int .i64 a0.addr, .int .i64 a0.len], .agg [.int .i64 a1.addr, .int .i64 a1.len]] [] = some (.bool r, []) := by
 unfold m108 at h
 rw [evFL_at fn108 (Nat.le_of_ble_eq_true rfl) rfl (.inr rfl) ⟨rfl, rfl⟩]
 obtain ⟨v7, q5, h⟩ := bnd_some h
 have w6 := e108_1 a0 a1 v7 q5
 simp only [X108_1] at w6
 try simp -implicitDefEqProofs only [go_sem] at w6
 cases h
 simp -implicitDefEqProofs only [go_sem, i108, c108, w6]
theorem call135 (args : List AV) (S : St) : evCall T (evFL T) 135 args S = lendC (evFL T 135) S (lendAll S [[1]] args) := evCall0 fn135 rfl rfl rfl args S
theorem callz135 (args : List AV) (S : St) : evCallFz T (evFL T) 135 args S = lendZ (evFL T 135) S [[0]] (lendAll S [[1]] args) := evCallFz0 fn135 rfl rfl rfl args S
attribute [go_sem] call135 callz135
noncomputable def X135_1 (a0 : (List Int)) (p1 : Int) (o : (Unit ⊕ Unit)) : Ex × Fr × St :=
 match o with
 | .inl o => (.exit 0, frOf 18 (upd anyF 0 (.ts .imm 1 (a0.map encInt))), [])
 | .inr o => (.ret, frOf 18 (upd anyF 2 (.bool false)), [])
noncomputable def E135_1 (a0 : (List Int)) (p1 : Int) (s : Int) : Fr × St := (frOf 18 (upd (upd (upd (upd anyF 0 (.ts .imm 1 (a0.map encInt))) 5 (.ts .imm 1 (a0.map encInt))) 6 (.int .i64 p1)) 7 (.int .i64 s)), [])
theorem b135_1 (a0 : (List Int)) (p1 : Int) (s : Int) (o : Ctl Int (Unit ⊕ Unit)) (h : m135_1b a0 p1 s = some o) : evCL T 0 k135_1b (E135_1 a0 p1 s).1 (E135_1 a0 p1 s).2 = some (ctlX (E135_1 a0 p1) (X135_1 a0 p1) o) := by
 unfold m135_1b at h
 revert h
 generalize s = s12
 intro h
 try simp -implicitDefEqProofs only [go_sem, E135_1, X135_1, k135_1b]
 cases b13 : (ltI s12 p1 : Bool)
 · replace h := br_f b13 h
   cases h
   simp -implicitDefEqProofs only [go_sem, E135_1, X135_1, k135_1b, b13]
 · replace h := br_t b13 h
   obtain ⟨x14, q15, h⟩ := bnd_some h
   obtain ⟨g16, g17, g18⟩ := idx_row encInt q15
   try simp -implicitDefEqProofs only [go_sem] at g17
   try simp -implicitDefEqProofs only [go_sem] at g18
   obtain ⟨r21, q19, h⟩ := bnd_some h
   have w20 := e71 x14 1 65535 r21 q19
   try simp -implicitDefEqProofs only [go_sem] at w20
   try simp -implicitDefEqProofs only [go_sem, E135_1, X135_1, k135_1b, b13, g16, g17, g18, w20]
   cases b22 : (r21 : Bool)
   · replace h := br_f b22 h
     cases h
     simp -implicitDefEqProofs only [go_sem, E135_1, X135_1, k135_1b, b13, g16, g17, g18, w20, b22]
   · replace h := br_t b22 h
     cases h
     simp -implicitDefEqProofs only [go_sem, E135_1, X135_1, k135_1b, b13, g16, g17, g18, w20, b22]
theorem e135_1 (a0 : (List Int)) (p1 : Int) (s : Int) (o : (Unit ⊕ Unit)) (h : loopP (m135_1b a0 p1) s = some o) : evCL T 0 (.loop k135_1b) (E135_1 a0 p1 s).1 (E135_1 a0 p1 s).2 = some (X135_1 a0 p1 o) :=
 loop_walk (E := E135_1 a0 p1) (X := X135_1 a0 p1) (by intro b; rcases b with b | b <;> (simp only [X135_1]; nofun)) (b135_1 a0 p1) s o h
theorem e135 (a0 : (List Int)) (r : Bool) (h : m135 a0 = some r) : evFL T 135 [.ts .imm 1 (a0.map encInt)] [] = some (.bool r, []) := by
 unfold m135 at h
 rw [evFL_at fn135 (Nat.le_of_ble_eq_true rfl) rfl (.inr rfl) ⟨rfl, rfl⟩]
 try simp -implicitDefEqProofs only [go_sem, i135, c135]
 obtain ⟨o, q23, h⟩ := bnd_some h
 rcases o with ⟨⟩ | ⟨⟩
 · replace h := selS_l h
   have w24 := e135_1 a0 (↑a0.length : Int) 0 (.inl ()) q23
   simp only [E135_1, X135_1] at w24
   try simp -implicitDefEqProofs only [go_sem] at w24
   cases h
   simp -implicitDefEqProofs only [go_sem, i135, c135, w24]
 · replace h := selS_r h
   have w24 := e135_1 a0 (↑a0.length : Int) 0 (.inr ()) q23
   simp only [E135_1, X135_1] at w24
   try simp -implicitDefEqProofs only [go_sem] at w24
   cases h
   simp -implicitDefEqProofs only [go_sem, i135, c135, w24]
theorem call90 (args : List AV) (S : St) : evCall T (evFL T) 90 args S = c3A true true (evFL T 90) (rawAll S [[1], [0]] args) := evCall3_g fn90 rfl (fun h => absurd h.1 (by decide)) args S
attribute [go_sem] call90
noncomputable def X90_3 (a1 : Int) (s11 : Int) (a0 : (List Int)) (o : Bool) : Ex × Fr × St :=
 (.normal, frOf 48 (upd (upd (upd (upd anyF 0 (.sl 1 0 a0.length)) 1 (.int .i64 a1)) 5 (.int .i64 s11)) 18 (.bool o)), [none, some ⟨.arr, 1, a0.map encInt⟩])
theorem e90_3 (a1 : Int) (s11 : Int) (a0 : (List Int)) (o : Bool) (h : m90_3 a1 s11 a0 = some o) : evCL T 1 k90_3 (frOf 48 (upd (upd (upd anyF 0 (.sl 1 0 a0.length)) 1 (.int .i64 a1)) 5 (.int .i64 s11))) [none, some ⟨.arr, 1, a0.map encInt⟩] = some (X90_3 a1 s11 a0 o) := by
 unfold m90_3 at h
 try simp -implicitDefEqProofs only [go_sem, X90_3, k90_3]
 cases b12 : (ltI s11 (↑a0.length : Int) : Bool)
 · replace h := br_f b12 h
   cases h
   simp -implicitDefEqProofs only [go_sem, X90_3, k90_3, b12]
 · replace h := br_t b12 h
   obtain ⟨x13, q14, h⟩ := bnd_some h
   obtain ⟨g15, g16, g17⟩ := idx_row encInt q14
   try simp -implicitDefEqProofs only [go_sem] at g16
   try simp -implicitDefEqProofs only [go_sem] at g17
   cases h
   simp -implicitDefEqProofs only [go_sem, X90_3, k90_3, b12, g15, g16, g17]
noncomputable def X90_1 (a1 : Int) (a0 : (List Int)) (o : Int) : Ex × Fr × St :=
 (.exit 0, frOf 48 (upd (upd (upd anyF 0 (.sl 1 0 a0.length)) 1 (.int .i64 a1)) 5 (.int .i64 o)), [none, some ⟨.arr, 1, a0.map encInt⟩])
noncomputable def E90_1 (a1 : Int) (a0 : (List Int)) (s : Int) : Fr × St := (frOf 48 (upd (upd (upd anyF 0 (.sl 1 0 a0.length)) 1 (.int .i64 a1)) 5 (.int .i64 s)), [none, some ⟨.arr, 1, a0.map encInt⟩])
theorem b90_1 (a1 : Int) (a0 : (List Int)) (s : Int) (o : Ctl Int Int) (h : m90_1b a1 a0 s = some o) : evCL T 1 k90_1b (E90_1 a1 a0 s).1 (E90_1 a1 a0 s).2 = some (ctlX (E90_1 a1 a0) (X90_1 a1 a0) o) := by
 unfold m90_1b at h
 revert h
 generalize s = s11
 intro h
 obtain ⟨v20, q18, h⟩ := bnd_some h
 have w19 := e90_3 a1 s11 a0 v20 q18
 simp only [X90_3] at w19
 try simp -implicitDefEqProofs only [go_sem] at w19
 try simp -implicitDefEqProofs only [go_sem, E90_1, X90_1, k90_1b, w19]
 cases b21 : (v20 : Bool)
 · replace h := br_f b21 h
   cases h
   simp -implicitDefEqProofs only [go_sem, E90_1, X90_1, k90_1b, w19, b21]
 · replace h := br_t b21 h
   cases h
   simp -implicitDefEqProofs only [go_sem, E90_1, X90_1, k90_1b, w19, b21]
theorem e90_1 (a1 : Int) (a0 : (List Int)) (s : Int) (o : Int) (h : loopP (m90_1b a1 a0) s = some o) : evCL T 1 (.loop k90_1b) (E90_1 a1 a0 s).1 (E90_1 a1 a0 s).2 = some (X90_1 a1 a0 o) :=
 loop_walk (E := E90_1 a1 a0) (X := X90_1 a1 a0) (by intro b; (simp only [X90_1]; nofun)) (b90_1 a1 a0) s o h
noncomputable def X90_4 (a1 : Int) (v24 : Int) (a0 : (List Int)) (o : Bool) : Ex × Fr × St :=
 (.normal, frOf 48 (upd (upd (upd (upd anyF 0 (.sl 1 0 a0.length)) 1 (.int .i64 a1)) 5 (.int .i64 v24)) 32 (.bool o)), [none, some ⟨.arr, 1, a0.map encInt⟩])
theorem e90_4 (a1 : Int) (v24 : Int) (a0 : (List Int)) (o : Bool) (h : m90_4 a1 v24 a0 = some o) : evCL T 1 k90_4 (frOf 48 (upd (upd (upd anyF 0 (.sl 1 0 a0.length)) 1 (.int .i64 a1)) 5 (.int .i64 v24))) [none, some ⟨.arr, 1, a0.map encInt⟩] = some (X90_4 a1 v24 a0 o) := by
 unfold m90_4 at h
 try simp -implicitDefEqProofs only [go_sem, X90_4, k90_4]
 cases b25 : (ltI v24 (↑a0.length : Int) : Bool)
 · replace h := br_f b25 h
   cases h
   simp -implicitDefEqProofs only [go_sem, X90_4, k90_4, b25]
 · replace h := br_t b25 h
   obtain ⟨x26, q27, h⟩ := bnd_some h
   obtain ⟨g28, g29, g30⟩ := idx_row encInt q27
   try simp -implicitDefEqProofs only [go_sem] at g29
   try simp -implicitDefEqProofs only [go_sem] at g30
   cases h
   simp -implicitDefEqProofs only [go_sem, X90_4, k90_4, b25, g28, g29, g30]
theorem e90 (a0 : (List Int)) (a1 : Int) (r : List Int) (h : m90 a0 a1 = some r) : evFL T 90 [.sl 0 0 a0.length, .int .i64 a1] [some ⟨.arr, 1, a0.map encInt⟩] = some (.sl 1 0 r.length, [none, some ⟨.arr, 1, r.map encInt⟩]) := by
 unfold m90 at h
 rw [evFL_at fn90 (Nat.le_of_ble_eq_true rfl) rfl (.inl rfl) ⟨rfl, rfl⟩]
 obtain ⟨v24, q22, h⟩ := bnd_some h
 have w23 := e90_1 a1 a0 0 v24 q22
 simp only [E90_1, X90_1] at w23
 try simp -implicitDefEqProofs only [go_sem] at w23
 obtain ⟨v33, q31, h⟩ := bnd_some h
 have w32 := e90_4 a1 v24 a0 v33 q31
 simp only [X90_4] at w32
 try simp -implicitDefEqProofs only [go_sem] at w32
 try simp -implicitDefEqProofs only [go_sem, i90, c90, w23, w32]
 cases b34 : (v33 : Bool)
 · replace h := br_f b34 h
   obtain ⟨g35, h⟩ := ck_some h
   try simp -implicitDefEqProofs only [go_sem] at g35
   have g36 : 0 + (v24.toNat) ≤ a0.length := by (try simp only [List.length_take, List.length_drop, List.length_append, List.length_set, List.length_cons, List.length_nil]); omega
   have g37 : v24.toNat ≤ a0.length := by (try simp only [List.length_take, List.length_drop, List.length_append, List.length_set, List.length_cons, List.length_nil]); omega
   obtain ⟨g38, h⟩ := ck_some h
   try simp -implicitDefEqProofs only [go_sem] at g38
   try simp -implicitDefEqProofs only [go_sem, g36, g37] at g38
   obtain ⟨g39, h⟩ := ck_some h
   try simp -implicitDefEqProofs only [go_sem] at g39
   try simp -implicitDefEqProofs only [go_sem, g36, g37] at g39
   obtain ⟨g40, h⟩ := ck_some h
   try simp -implicitDefEqProofs only [go_sem] at g40
   have g41 : v24.toNat + (a0.length - v24.toNat) ≤ a0.length := by (try simp only [List.length_take, List.length_drop, List.length_append, List.length_set, List.length_cons, List.length_nil]); omega
   obtain ⟨g42, h⟩ := ck_some h
   try simp -implicitDefEqProofs only [go_sem] at g42
   try simp -implicitDefEqProofs only [go_sem, g36, g37, g41] at g42
   cases h
   simp -implicitDefEqProofs only [go_sem, i90, c90, w23, w32, b34, g35, g36, g37, g38, g39, g40, g41, g42]
 · replace h := br_t b34 h
   cases h
   simp -implicitDefEqProofs only [go_sem, i90, c90, w23, w32, b34]
theorem call136 (args : List AV) (S : St) : evCall T (evFL T) 136 args S = lendC (evFL T 136) S (lendAll S [[0, 0, 3], [1], [0]] args) := evCall0 fn136 rfl rfl rfl args S
theorem callz136 (args : List AV) (S : St) : evCallFz T (evFL T) 136 args S = lendZ (evFL T 136) S [[1]] (lendAll S [[0, 0, 3], [1], [0]] args) := evCallFz0 fn136 rfl rfl rfl args S
attribute [go_sem] call136 callz136
noncomputable def X136_1 (a1 : (List Int)) (a2 : Int) (a0 : l6T) (p2 : Bool) (o : Bool) : Ex × Fr × St :=
 (.normal, frOf 145 (upd (upd (upd (upd (upd anyF 1 (.ts .imm 1 (a1.map encInt))) 2 (.int .i64 a2)) 3 (.ptr 0 0 0)) 22 (.int .i64 a0.kind_)) 27 (.bool o)), [some ⟨.box, 3, [[.int .i64 a0.kind_, .int .i64 a0.n_, .ts .imm 3 (a0.kids_.map (encl6T .imm))]]⟩])
theorem e136_1 (rc : l6T → (List Int) → Int → Option (List Int)) (hrc : ∀ (a0 : l6T) (a1 : (List Int)) (a2 : Int) (r : (List Int)), rc a0 a1 a2 = some r → evFL T 136 [.agg [.int .i64 a0.kind_, .int .i64 a0.n_, .ts .imm 3 (a0.kids_.map (encl6T .imm))], .ts .imm 1 (a1.map encInt), .int .i64 a2] [] = some (.sl 0 0 r.length, [some ⟨.arr, 1, r.map encInt⟩])) (a1 : (List Int)) (a2 : Int) (a0 : l6T) (p2 : Bool) (o : Bool) (h : m136_1 rc a0 p2 = some o) : evCL T 0 k136_1 (frOf 145 (upd (upd (upd (upd (upd anyF 1 (.ts .imm 1 (a1.map encInt))) 2 (.int .i64 a2)) 3 (.ptr 0 0 0)) 22 (.int .i64 a0.kind_)) 27 (.bool p2))) [some ⟨.box, 3, [[.int .i64 a0.kind_, .int .i64 a0.n_, .ts .imm 3 (a0.kids_.map (encl6T .imm))]]⟩] = some (X136_1 a1 a2 a0 p2 o) := by
 unfold m136_1 at h
 try simp -implicitDefEqProofs only [go_sem, X136_1, k136_1]
 cases b3 : (p2 : Bool)
 · replace h := br_f b3 h
   cases h
   simp -implicitDefEqProofs only [go_sem, X136_1, k136_1, b3]
 · replace h := br_t b3 h
   cases h
   simp -implicitDefEqProofs only [go_sem, X136_1, k136_1, b3]
noncomputable def X136_3 (a1 : (List Int)) (a2 : Int) (a0 : l6T) (o : Bool) : Ex × Fr × St :=
 (.normal, frOf 145 (upd (upd anyF 2 (.int .i64 a2)) 47 (.bool o)), [])
theorem e136_3 (rc : l6T → (List Int) → Int → Option (List Int)) (hrc : ∀ (a0 : l6T) (a1 : (List Int)) (a2 : Int) (r : (List Int)), rc a0 a1 a2 = some r → evFL T 136 [.agg [.int .i64 a0.kind_, .int .i64 a0.n_, .ts .imm 3 (a0.kids_.map (encl6T .imm))], .ts .imm 1 (a1.map encInt), .int .i64 a2] [] = some (.sl 0 0 r.length, [some ⟨.arr, 1, r.map encInt⟩])) (a1 : (List Int)) (a2 : Int) (a0 : l6T) (o : Bool) (h : m136_3 rc a1 a2 a0 = some o) : evCL T 0 k136_3 (frOf 145 (upd (upd (upd anyF 1 (.ts .imm 1 (a1.map encInt))) 2 (.int .i64 a2)) 3 (.ptr 0 0 0))) [some ⟨.box, 3, [[.int .i64 a0.kind_, .int .i64 a0.n_, .ts .imm 3 (a0.kids_.map (encl6T .imm))]]⟩] = some (X136_3 a1 a2 a0 o) := by
 unfold m136_3 at h
 try simp -implicitDefEqProofs only [go_sem, X136_3, k136_3]
 cases b8 : (ltI a2 (↑a1.length : Int) : Bool)
 · replace h := br_f b8 h
   cases h
   simp -implicitDefEqProofs only [go_sem, X136_3, k136_3, b8]
 · replace h := br_t b8 h
   try simp -implicitDefEqProofs only [go_sem, X136_3, k136_3, b8]
   cases b9 : (eqI a0.kind_ 4 : Bool)
   · replace h := br_f b9 h
     obtain ⟨x10, q11, h⟩ := bnd_some h
     obtain ⟨g12, g13, g14⟩ := idx_row encInt q11
     try simp -implicitDefEqProofs only [go_sem] at g13
     try simp -implicitDefEqProofs only [go_sem] at g14
     cases h
     simp -implicitDefEqProofs only [go_sem, X136_3, k136_3, b8, b9, g12, g13, g14]
   · replace h := br_t b9 h
     cases h
     simp -implicitDefEqProofs only [go_sem, X136_3, k136_3, b8, b9]
noncomputable def X136_4 (p36 : Int) (r35 : (List Int)) (o : (List Int)) : Ex × Fr × St :=
 (.exit 1, frOf 145 (upd anyF 7 (.sl 0 0 o.length)), [some ⟨.arr, 1, o.map encInt⟩])
noncomputable def E136_4 (p36 : Int) (r35 : (List Int)) (s : (Int × List Int)) : Fr × St := (frOf 145 (upd (upd (upd (upd anyF 7 (.sl 0 0 s.2.length)) 66 (.sl 1 0 r35.length)) 67 (.int .i64 p36)) 68 (.int .i64 s.1)), [some ⟨.arr, 1, s.2.map encInt⟩, some ⟨.arr, 1, r35.map encInt⟩])
theorem b136_4 (rc : l6T → (List Int) → Int → Option (List Int)) (hrc : ∀ (a0 : l6T) (a1 : (List Int)) (a2 : Int) (r : (List Int)), rc a0 a1 a2 = some r → evFL T 136 [.agg [.int .i64 a0.kind_, .int .i64 a0.n_, .ts .imm 3 (a0.kids_.map (encl6T .imm))], .ts .imm 1 (a1.map encInt), .int .i64 a2] [] = some (.sl 0 0 r.length, [some ⟨.arr, 1, r.map encInt⟩])) (p36 : Int) (r35 : (List Int)) (s : (Int × List Int)) (o : Ctl (Int × List Int) (List Int)) (h : m136_4b rc p36 r35 s = some o) : evCL T 0 k136_4b (E136_4 p36 r35 s).1 (E136_4 p36 r35 s).2 = some (ctlX (E136_4 p36 r35) (X136_4 p36 r35) o) := by
 unfold m136_4b at h
 obtain ⟨s46, s47⟩ := s
 replace h := sel2_some h
 try simp -implicitDefEqProofs only [go_sem, E136_4, X136_4, k136_4b]
 cases b48 : (ltI s46 p36 : Bool)
 · replace h := br_f b48 h
   cases h
   simp -implicitDefEqProofs only [go_sem, E136_4, X136_4, k136_4b, b48]
 · replace h := br_t b48 h
   obtain ⟨x49, q50, h⟩ := bnd_some h
   obtain ⟨g51, g52, g53⟩ := idx_row encInt q50
   try simp -implicitDefEqProofs only [go_sem] at g52
   try simp -implicitDefEqProofs only [go_sem] at g53
   obtain ⟨r56, q54, h⟩ := bnd_some h
   have w55 := e90 s47 x49 r56 q54
   try simp -implicitDefEqProofs only [go_sem] at w55
   cases h
   simp -implicitDefEqProofs only [go_sem, E136_4, X136_4, k136_4b, b48, g51, g52, g53, w55]
theorem e136_4 (rc : l6T → (List Int) → Int → Option (List Int)) (hrc : ∀ (a0 : l6T) (a1 : (List Int)) (a2 : Int) (r : (List Int)), rc a0 a1 a2 = some r → evFL T 136 [.agg [.int .i64 a0.kind_, .int .i64 a0.n_, .ts .imm 3 (a0.kids_.map (encl6T .imm))], .ts .imm 1 (a1.map encInt), .int .i64 a2] [] = some (.sl 0 0 r.length, [some ⟨.arr, 1, r.map encInt⟩])) (p36 : Int) (r35 : (List Int)) (s : (Int × List Int)) (o : (List Int)) (h : loopP (m136_4b rc p36 r35) s = some o) : evCL T 0 (.loop k136_4b) (E136_4 p36 r35 s).1 (E136_4 p36 r35 s).2 = some (X136_4 p36 r35 o) :=
 loop_walk (E := E136_4 p36 r35) (X := X136_4 p36 r35) (by intro b; (simp only [X136_4]; nofun)) (b136_4 rc hrc p36 r35) s o h
noncomputable def X136_7 (a1 : (List Int)) (p69 : Int) (s108 : Int) (p124 : Int) (a0 : l6T) (r68 : (List Int)) (r123 : (List Int)) (o : (List Int)) : Ex × Fr × St :=
 (.exit 5, frOf 145 (upd (upd (upd (upd (upd (upd anyF 1 (.ts .imm 1 (a1.map encInt))) 3 (.ptr 0 0 0)) 10 (.sl 1 0 o.length)) 85 (.sl 2 0 r68.length)) 86 (.int .i64 p69)) 87 (.int .i64 s108)), [some ⟨.box, 3, [[.int .i64 a0.kind_, .int .i64 a0.n_, .ts .imm 3 (a0.kids_.map (encl6T .imm))]]⟩, some ⟨.arr, 1, o.map encInt⟩, some ⟨.arr, 1, r68.map encInt⟩])
noncomputable def E136_7 (a1 : (List Int)) (p69 : Int) (s108 : Int) (p124 : Int) (a0 : l6T) (r68 : (List Int)) (r123 : (List Int)) (s : (Int × List Int)) : Fr × St := (frOf 145 (upd (upd (upd (upd (upd (upd (upd (upd (upd anyF 1 (.ts .imm 1 (a1.map encInt))) 3 (.ptr 0 0 0)) 10 (.sl 1 0 s.2.length)) 85 (.sl 2 0 r68.length)) 86 (.int .i64 p69)) 87 (.int .i64 s108)) 97 (.sl 3 0 r123.length)) 98 (.int .i64 p124)) 99 (.int .i64 s.1)), [some ⟨.box, 3, [[.int .i64 a0.kind_, .int .i64 a0.n_, .ts .imm 3 (a0.kids_.map (encl6T .imm))]]⟩, some ⟨.arr, 1, s.2.map encInt⟩, some ⟨.arr, 1, r68.map encInt⟩, some ⟨.arr, 1, r123.map encInt⟩])
theorem b136_7 (rc : l6T → (List Int) → Int → Option (List Int)) (hrc : ∀ (a0 : l6T) (a1 : (List Int)) (a2 : Int) (r : (List Int)), rc a0 a1 a2 = some r → evFL T 136 [.agg [.int .i64 a0.kind_, .int .i64 a0.n_, .ts .imm 3 (a0.kids_.map (encl6T .imm))], .ts .imm 1 (a1.map encInt), .int .i64 a2] [] = some (.sl 0 0 r.length, [some ⟨.arr, 1, r.map encInt⟩])) (a1 : (List Int)) (p69 : Int) (s108 : Int) (p124 : Int) (a0 : l6T) (r68 : (List Int)) (r123 : (List Int)) (s : (Int × List Int)) (o : Ctl (Int × List Int) (List Int)) (h : m136_7b rc p124 r123 s = some o) : evCL T 0 k136_7b (E136_7 a1 p69 s108 p124 a0 r68 r123 s).1 (E136_7 a1 p69 s108 p124 a0 r68 r123 s).2 = some (ctlX (E136_7 a1 p69 s108 p124 a0 r68 r123) (X136_7 a1 p69 s108 p124 a0 r68 r123) o) := by
 unfold m136_7b at h
 obtain ⟨s134, s135⟩ := s
 replace h := sel2_some h
 try simp -implicitDefEqProofs only [go_sem, E136_7, X136_7, k136_7b]
 cases b136 : (ltI s134 p124 : Bool)
 · replace h := br_f b136 h
   cases h
   simp -implicitDefEqProofs only [go_sem, E136_7, X136_7, k136_7b, b136]
 · replace h := br_t b136 h
   obtain ⟨x137, q138, h⟩ := bnd_some h
   obtain ⟨g139, g140, g141⟩ := idx_row encInt q138
   try simp -implicitDefEqProofs only [go_sem] at g140
   try simp -implicitDefEqProofs only [go_sem] at g141
   obtain ⟨r144, q142, h⟩ := bnd_some h
   have w143 := e90 s135 x137 r144 q142
   try simp -implicitDefEqProofs only [go_sem] at w143
   cases h
   simp -implicitDefEqProofs only [go_sem, E136_7, X136_7, k136_7b, b136, g139, g140, g141, w143]
theorem e136_7 (rc : l6T → (List Int) → Int → Option (List Int)) (hrc : ∀ (a0 : l6T) (a1 : (List Int)) (a2 : Int) (r : (List Int)), rc a0 a1 a2 = some r → evFL T 136 [.agg [.int .i64 a0.kind_, .int .i64 a0.n_, .ts .imm 3 (a0.kids_.map (encl6T .imm))], .ts .imm 1 (a1.map encInt), .int .i64 a2] [] = some (.sl 0 0 r.length, [some ⟨.arr, 1, r.map encInt⟩])) (a1 : (List Int)) (p69 : Int) (s108 : Int) (p124 : Int) (a0 : l6T) (r68 : (List Int)) (r123 : (List Int)) (s : (Int × List Int)) (o : (List Int)) (h : loopP (m136_7b rc p124 r123) s = some o) : evCL T 0 (.loop k136_7b) (E136_7 a1 p69 s108 p124 a0 r68 r123 s).1 (E136_7 a1 p69 s108 p124 a0 r68 r123 s).2 = some (X136_7 a1 p69 s108 p124 a0 r68 r123 o) :=
 loop_walk (E := E136_7 a1 p69 s108 p124 a0 r68 r123) (X := X136_7 a1 p69 s108 p124 a0 r68 r123) (by intro b; (simp only [X136_7]; nofun)) (b136_7 rc hrc a1 p69 s108 p124 a0 r68 r123) s o h
noncomputable def X136_5 (a1 : (List Int)) (p69 : Int) (a0 : l6T) (r68 : (List Int)) (o : (List Int)) : Ex × Fr × St :=
 (.exit 3, frOf 145 (upd anyF 10 (.sl 0 0 o.length)), [some ⟨.arr, 1, o.map encInt⟩])
noncomputable def E136_5 (a1 : (List Int)) (p69 : Int) (a0 : l6T) (r68 : (List Int)) (s : (Int × List Int)) : Fr × St := (frOf 145 (upd (upd (upd (upd (upd (upd anyF 1 (.ts .imm 1 (a1.map encInt))) 3 (.ptr 0 0 0)) 10 (.sl 1 0 s.2.length)) 85 (.sl 2 0 r68.length)) 86 (.int .i64 p69)) 87 (.int .i64 s.1)), [some ⟨.box, 3, [[.int .i64 a0.kind_, .int .i64 a0.n_, .ts .imm 3 (a0.kids_.map (encl6T .imm))]]⟩, some ⟨.arr, 1, s.2.map encInt⟩, some ⟨.arr, 1, r68.map encInt⟩])
theorem b136_5 (rc : l6T → (List Int) → Int → Option (List Int)) (hrc : ∀ (a0 : l6T) (a1 : (List Int)) (a2 : Int) (r : (List Int)), rc a0 a1 a2 = some r → evFL T 136 [.agg [.int .i64 a0.kind_, .int .i64 a0.n_, .ts .imm 3 (a0.kids_.map (encl6T .imm))], .ts .imm 1 (a1.map encInt), .int .i64 a2] [] = some (.sl 0 0 r.length, [some ⟨.arr, 1, r.map encInt⟩])) (a1 : (List Int)) (p69 : Int) (a0 : l6T) (r68 : (List Int)) (s : (Int × List Int)) (o : Ctl (Int × List Int) (List Int)) (h : m136_5b rc a1 p69 a0 r68 s = some o) : evCL T 0 k136_5b (E136_5 a1 p69 a0 r68 s).1 (E136_5 a1 p69 a0 r68 s).2 = some (ctlX (E136_5 a1 p69 a0 r68) (X136_5 a1 p69 a0 r68) o) := by
 unfold m136_5b at h
 obtain ⟨s108, s109⟩ := s
 replace h := sel2_some h
 try simp -implicitDefEqProofs only [go_sem, E136_5, X136_5, k136_5b]
 cases b110 : (ltI s108 p69 : Bool)
 · replace h := br_f b110 h
   cases h
   simp -implicitDefEqProofs only [go_sem, E136_5, X136_5, k136_5b, b110]
 · replace h := br_t b110 h
   obtain ⟨x111, q112, h⟩ := bnd_some h
   obtain ⟨g113, g114, g115⟩ := idx_row encInt q112
   try simp -implicitDefEqProofs only [go_sem] at g114
   try simp -implicitDefEqProofs only [go_sem] at g115
   obtain ⟨x116, q117, h⟩ := bnd_some h
   obtain ⟨g118, g119, g120⟩ := idx_row (encl6T .imm) q117
   try simp -implicitDefEqProofs only [go_sem] at g119
   try simp -implicitDefEqProofs only [go_sem] at g120
   obtain ⟨r123, q121, h⟩ := bnd_some h
   have w122 := hrc x116 a1 x111 r123 q121
   try simp -implicitDefEqProofs only [go_sem] at w122
   obtain ⟨v147, q145, h⟩ := bnd_some h
   have w146 := e136_7 rc hrc a1 p69 s108 (↑r123.length : Int) a0 r68 r123 (0, s109) v147 q145
   simp only [E136_7, X136_7] at w146
   try simp -implicitDefEqProofs only [go_sem] at w146
   cases h
   simp -implicitDefEqProofs only [go_sem, E136_5, X136_5, k136_5b, b110, g113, g114, g115, g118, g119, g120, w122, w146]
theorem e136_5 (rc : l6T → (List Int) → Int → Option (List Int)) (hrc : ∀ (a0 : l6T) (a1 : (List Int)) (a2 : Int) (r : (List Int)), rc a0 a1 a2 = some r → evFL T 136 [.agg [.int .i64 a0.kind_, .int .i64 a0.n_, .ts .imm 3 (a0.kids_.map (encl6T .imm))], .ts .imm 1 (a1.map encInt), .int .i64 a2] [] = some (.sl 0 0 r.length, [some ⟨.arr, 1, r.map encInt⟩])) (a1 : (List Int)) (p69 : Int) (a0 : l6T) (r68 : (List Int)) (s : (Int × List Int)) (o : (List Int)) (h : loopP (m136_5b rc a1 p69 a0 r68) s = some o) : evCL T 0 (.loop k136_5b) (E136_5 a1 p69 a0 r68 s).1 (E136_5 a1 p69 a0 r68 s).2 = some (X136_5 a1 p69 a0 r68 o) :=
 loop_walk (E := E136_5 a1 p69 a0 r68) (X := X136_5 a1 p69 a0 r68) (by intro b; (simp only [X136_5]; nofun)) (b136_5 rc hrc a1 p69 a0 r68) s o h
noncomputable def X136_14 (a1 : (List Int)) (p240 : Int) (p241 : Int) (s280 : Int) (p296 : Int) (a0 : l6T) (s238 : List Int) (r295 : (List Int)) (o : (List Int)) : Ex × Fr × St :=
 (.exit 11, frOf 145 (upd (upd (upd (upd (upd (upd (upd anyF 1 (.ts .imm 1 (a1.map encInt))) 3 (.ptr 0 0 0)) 15 (.sl 1 0 o.length)) 16 (.int .i64 p240)) 117 (.sl 2 0 s238.length)) 118 (.int .i64 p241)) 119 (.int .i64 s280)), [some ⟨.box, 3, [[.int .i64 a0.kind_, .int .i64 a0.n_, .ts .imm 3 (a0.kids_.map (encl6T .imm))]]⟩, some ⟨.arr, 1, o.map encInt⟩, some ⟨.arr, 1, s238.map encInt⟩])
noncomputable def E136_14 (a1 : (List Int)) (p240 : Int) (p241 : Int) (s280 : Int) (p296 : Int) (a0 : l6T) (s238 : List Int) (r295 : (List Int)) (s : (Int × List Int)) : Fr × St := (frOf 145 (upd (upd (upd (upd (upd (upd (upd (upd (upd (upd anyF 1 (.ts .imm 1 (a1.map encInt))) 3 (.ptr 0 0 0)) 15 (.sl 1 0 s.2.length)) 16 (.int .i64 p240)) 117 (.sl 2 0 s238.length)) 118 (.int .i64 p241)) 119 (.int .i64 s280)) 129 (.sl 3 0 r295.length)) 130 (.int .i64 p296)) 131 (.int .i64 s.1)), [some ⟨.box, 3, [[.int .i64 a0.kind_, .int .i64 a0.n_, .ts .imm 3 (a0.kids_.map (encl6T .imm))]]⟩, some ⟨.arr, 1, s.2.map encInt⟩, some ⟨.arr, 1, s238.map encInt⟩, some ⟨.arr, 1, r295.map encInt⟩])
theorem b136_14 (rc : l6T → (List Int) → Int → Option (List Int)) (hrc : ∀ (a0 : l6T) (a1 : (List Int)) (a2 : Int) (r : (List Int)), rc a0 a1 a2 = some r → evFL T 136 [.agg [.int .i64 a0.kind_, .int .i64 a0.n_, .ts .imm 3 (a0.kids_.map (encl6T .imm))], .ts .imm 1 (a1.map encInt), .int .i64 a2] [] = some (.sl 0 0 r.length, [some ⟨.arr, 1, r.map encInt⟩])) (a1 : (List Int)) (p240 : Int) (p241 : Int) (s280 : Int) (p296 : Int) (a0 : l6T) (s238 : List Int) (r295 : (List Int)) (s : (Int × List Int)) (o : Ctl (Int × List Int) (List Int)) (h : m136_14b rc p296 r295 s = some o) : evCL T 0 k136_14b (E136_14 a1 p240 p241 s280 p296 a0 s238 r295 s).1 (E136_14 a1 p240 p241 s280 p296 a0 s238 r295 s).2 = some (ctlX (E136_14 a1 p240 p241 s280 p296 a0 s238 r295) (X136_14 a1 p240 p241 s280 p296 a0 s238 r295) o) := by
 unfold m136_14b at h
 obtain ⟨s306, s307⟩ := s
 replace h := sel2_some h
 try simp -implicitDefEqProofs only [go_sem, E136_14, X136_14, k136_14b]
 cases b308 : (ltI s306 p296 : Bool)
 · replace h := br_f b308 h
   cases h
   simp -implicitDefEqProofs only [go_sem, E136_14, X136_14, k136_14b, b308]
 · replace h := br_t b308 h
   obtain ⟨x309, q310, h⟩ := bnd_some h
   obtain ⟨g311, g312, g313⟩ := idx_row encInt q310
   try simp -implicitDefEqProofs only [go_sem] at g312
   try simp -implicitDefEqProofs only [go_sem] at g313
   obtain ⟨r316, q314, h⟩ := bnd_some h
   have w315 := e90 s307 x309 r316 q314
   try simp -implicitDefEqProofs only [go_sem] at w315
   cases h
   simp -implicitDefEqProofs only [go_sem, E136_14, X136_14, k136_14b, b308, g311, g312, g313, w315]
theorem e136_14 (rc : l6T → (List Int) → Int → Option (List Int)) (hrc : ∀ (a0 : l6T) (a1 : (List Int)) (a2 : Int) (r : (List Int)), rc a0 a1 a2 = some r → evFL T 136 [.agg [.int .i64 a0.kind_, .int .i64 a0.n_, .ts .imm 3 (a0.kids_.map (encl6T .imm))], .ts .imm 1 (a1.map encInt), .int .i64 a2] [] = some (.sl 0 0 r.length, [some ⟨.arr, 1, r.map encInt⟩])) (a1 : (List Int)) (p240 : Int) (p241 : Int) (s280 : Int) (p296 : Int) (a0 : l6T) (s238 : List Int) (r295 : (List Int)) (s : (Int × List Int)) (o : (List Int)) (h : loopP (m136_14b rc p296 r295) s = some o) : evCL T 0 (.loop k136_14b) (E136_14 a1 p240 p241 s280 p296 a0 s238 r295 s).1 (E136_14 a1 p240 p241 s280 p296 a0 s238 r295 s).2 = some (X136_14 a1 p240 p241 s280 p296 a0 s238 r295 o) :=
 loop_walk (E := E136_14 a1 p240 p241 s280 p296 a0 s238 r295) (X := X136_14 a1 p240 p241 s280 p296 a0 s238 r295) (by intro b; (simp only [X136_14]; nofun)) (b136_14 rc hrc a1 p240 p241 s280 p296 a0 s238 r295) s o h
noncomputable def X136_12 (a1 : (List Int)) (p240 : Int) (p241 : Int) (a0 : l6T) (s238 : List Int) (o : (List Int)) : Ex × Fr × St :=
 (.exit 9, frOf 145 (upd (upd (upd (upd anyF 1 (.ts .imm 1 (a1.map encInt))) 3 (.ptr 0 0 0)) 15 (.sl 1 0 o.length)) 16 (.int .i64 p240)), [some ⟨.box, 3, [[.int .i64 a0.kind_, .int .i64 a0.n_, .ts .imm 3 (a0.kids_.map (encl6T .imm))]]⟩, some ⟨.arr, 1, o.map encInt⟩])
noncomputable def E136_12 (a1 : (List Int)) (p240 : Int) (p241 : Int) (a0 : l6T) (s238 : List Int) (s : (Int × List Int)) : Fr × St := (frOf 145 (upd (upd (upd (upd (upd (upd (upd anyF 1 (.ts .imm 1 (a1.map encInt))) 3 (.ptr 0 0 0)) 15 (.sl 1 0 s.2.length)) 16 (.int .i64 p240)) 117 (.sl 2 0 s238.length)) 118 (.int .i64 p241)) 119 (.int .i64 s.1)), [some ⟨.box, 3, [[.int .i64 a0.kind_, .int .i64 a0.n_, .ts .imm 3 (a0.kids_.map (encl6T .imm))]]⟩, some ⟨.arr, 1, s.2.map encInt⟩, some ⟨.arr, 1, s238.map encInt⟩])
theorem b136_12 (rc : l6T → (List Int) → Int → Option (List Int)) (hrc : ∀ (a0 : l6T) (a1 : (List Int)) (a2 : Int) (r : (List Int)), rc a0 a1 a2 = some r → evFL T 136 [.agg [.int .i64 a0.kind_, .int .i64 a0.n_, .ts .imm 3 (a0.kids_.map (encl6T .imm))], .ts .imm 1 (a1.map encInt), .int .i64 a2] [] = some (.sl 0 0 r.length, [some ⟨.arr, 1, r.map encInt⟩])) (a1 : (List Int)) (p240 : Int) (p241 : Int) (a0 : l6T) (s238 : List Int) (s : (Int × List Int)) (o : Ctl (Int × List Int) (List Int)) (h : m136_12b rc a1 p241 a0 s238 s = some o) : evCL T 0 k136_12b (E136_12 a1 p240 p241 a0 s238 s).1 (E136_12 a1 p240 p241 a0 s238 s).2 = some (ctlX (E136_12 a1 p240 p241 a0 s238) (X136_12 a1 p240 p241 a0 s238) o) := by
 unfold m136_12b at h
 obtain ⟨s280, s281⟩ := s
 replace h := sel2_some h
 try simp -implicitDefEqProofs only [go_sem, E136_12, X136_12, k136_12b]
 cases b282 : (ltI s280 p241 : Bool)
 · replace h := br_f b282 h
   cases h
   simp -implicitDefEqProofs only [go_sem, E136_12, X136_12, k136_12b, b282]
 · replace h := br_t b282 h
   obtain ⟨x283, q284, h⟩ := bnd_some h
   obtain ⟨g285, g286, g287⟩ := idx_row encInt q284
   try simp -implicitDefEqProofs only [go_sem] at g286
   try simp -implicitDefEqProofs only [go_sem] at g287
   obtain ⟨x288, q289, h⟩ := bnd_some h
   obtain ⟨g290, g291, g292⟩ := idx_row (encl6T .imm) q289
   try simp -implicitDefEqProofs only [go_sem] at g291
   try simp -implicitDefEqProofs only [go_sem] at g292
   obtain ⟨r295, q293, h⟩ := bnd_some h
   have w294 := hrc x288 a1 x283 r295 q293
   try simp -implicitDefEqProofs only [go_sem] at w294
   obtain ⟨v319, q317, h⟩ := bnd_some h
   have w318 := e136_14 rc hrc a1 p240 p241 s280 (↑r295.length : Int) a0 s238 r295 (0, s281) v319 q317
   simp only [E136_14, X136_14] at w318
   try simp -implicitDefEqProofs only [go_sem] at w318
   cases h
   simp -implicitDefEqProofs only [go_sem, E136_12, X136_12, k136_12b, b282, g285, g286, g287, g290, g291, g292, w294, w318]
theorem e136_12 (rc : l6T → (List Int) → Int → Option (List Int)) (hrc : ∀ (a0 : l6T) (a1 : (List Int)) (a2 : Int) (r : (List Int)), rc a0 a1 a2 = some r → evFL T 136 [.agg [.int .i64 a0.kind_, .int .i64 a0.n_, .ts .imm 3 (a0.kids_.map (encl6T .imm))], .ts .imm 1 (a1.map encInt), .int .i64 a2] [] = some (.sl 0 0 r.length, [some ⟨.arr, 1, r.map encInt⟩])) (a1 : (List Int)) (p240 : Int) (p241 : Int) (a0 : l6T) (s238 : List Int) (s : (Int × List Int)) (o : (List Int)) (h : loopP (m136_12b rc a1 p241 a0 s238) s = some o) : evCL T 0 (.loop k136_12b) (E136_12 a1 p240 p241 a0 s238 s).1 (E136_12 a1 p240 p241 a0 s238 s).2 = some (X136_12 a1 p240 p241 a0 s238 o) :=
 loop_walk (E := E136_12 a1 p240 p241 a0 s238) (X := X136_12 a1 p240 p241 a0 s238) (by intro b; (simp only [X136_12]; nofun)) (b136_12 rc hrc a1 p240 p241 a0 s238) s o h
noncomputable def X136_8 (a1 : (List Int)) (a0 : l6T) (o : (List Int)) : Ex × Fr × St :=
 (.ret, frOf 145 (upd anyF 6 (.sl 0 0 o.length)), [some ⟨.arr, 1, o.map encInt⟩])
noncomputable def E136_8 (a1 : (List Int)) (a0 : l6T) (s : List Int) : Fr × St := (frOf 145 (upd (upd (upd anyF 1 (.ts .imm 1 (a1.map encInt))) 3 (.ptr 0 0 0)) 15 (.sl 1 0 s.length)), [some ⟨.box, 3, [[.int .i64 a0.kind_, .int .i64 a0.n_, .ts .imm 3 (a0.kids_.map (encl6T .imm))]]⟩, some ⟨.arr, 1, s.map encInt⟩])
theorem b136_8 (rc : l6T → (List Int) → Int → Option (List Int)) (hrc : ∀ (a0 : l6T) (a1 : (List Int)) (a2 : Int) (r : (List Int)), rc a0 a1 a2 = some r → evFL T 136 [.agg [.int .i64 a0.kind_, .int .i64 a0.n_, .ts .imm 3 (a0.kids_.map (encl6T .imm))], .ts .imm 1 (a1.map encInt), .int .i64 a2] [] = some (.sl 0 0 r.length, [some ⟨.arr, 1, r.map encInt⟩])) (a1 : (List Int)) (a0 : l6T) (s : List Int) (o : Ctl (List Int) (List Int)) (h : m136_8b rc a1 a0 s = some o) : evCL T 0 k136_8b (E136_8 a1 a0 s).1 (E136_8 a1 a0 s).2 = some (ctlX (E136_8 a1 a0) (X136_8 a1 a0) o) := by
 unfold m136_8b at h
 revert h
 generalize s = s238
 intro h
 obtain ⟨g239, h⟩ := ck_some h
 try simp -implicitDefEqProofs only [go_sem] at g239
 obtain ⟨v322, q320, h⟩ := bnd_some h
 have w321 := e136_12 rc hrc a1 (↑s238.length : Int) (↑s238.length : Int) a0 s238 (0, s238) v322 q320
 simp only [E136_12, X136_12] at w321
 try simp -implicitDefEqProofs only [go_sem] at w321
 try simp -implicitDefEqProofs only [go_sem, E136_8, X136_8, k136_8b, g239, w321]
 cases b323 : (eqI (↑v322.length : Int) (↑s238.length : Int) : Bool)
 · replace h := br_f b323 h
   cases h
   simp -implicitDefEqProofs only [go_sem, E136_8, X136_8, k136_8b, g239, w321, b323]
 · replace h := br_t b323 h
   cases h
   simp -implicitDefEqProofs only [go_sem, E136_8, X136_8, k136_8b, g239, w321, b323]
theorem e136_8 (rc : l6T → (List Int) → Int → Option (List Int)) (hrc : ∀ (a0 : l6T) (a1 : (List Int)) (a2 : Int) (r : (List Int)), rc a0 a1 a2 = some r → evFL T 136 [.agg [.int .i64 a0.kind_, .int .i64 a0.n_, .ts .imm 3 (a0.kids_.map (encl6T .imm))], .ts .imm 1 (a1.map encInt), .int .i64 a2] [] = some (.sl 0 0 r.length, [some ⟨.arr, 1, r.map encInt⟩])) (a1 : (List Int)) (a0 : l6T) (s : List Int) (o : (List Int)) (h : loopP (m136_8b rc a1 a0) s = some o) : evCL T 0 (.loop k136_8b) (E136_8 a1 a0 s).1 (E136_8 a1 a0 s).2 = some (X136_8 a1 a0 o) :=
 loop_walk (E := E136_8 a1 a0) (X := X136_8 a1 a0) (by intro b; (simp only [X136_8]; nofun)) (b136_8 rc hrc a1 a0) s o h
noncomputable def X136_2 (a1 : (List Int)) (a2 : Int) (a0 : l6T) (v6 : Bool) (o : (Unit ⊕ List Int)) : Ex × Fr × St :=
 match o with
 | .inl o => (.normal, frOf 145 (anyF), [])
 | .inr o => (.ret, frOf 145 (upd anyF 6 (.sl 0 0 o.length)), [some ⟨.arr, 1, o.map encInt⟩])
theorem e136_2 (rc : l6T → (List Int) → Int → Option (List Int)) (hrc : ∀ (a0 : l6T) (a1 : (List Int)) (a2 : Int) (r : (List Int)), rc a0 a1 a2 = some r → evFL T 136 [.agg [.int .i64 a0.kind_, .int .i64 a0.n_, .ts .imm 3 (a0.kids_.map (encl6T .imm))], .ts .imm 1 (a1.map encInt), .int .i64 a2] [] = some (.sl 0 0 r.length, [some ⟨.arr, 1, r.map encInt⟩])) (a1 : (List Int)) (a2 : Int) (a0 : l6T) (v6 : Bool) (o : (Unit ⊕ List Int)) (h : m136_2 rc a1 a2 a0 v6 = some o) : evCL T 0 k136_2 (frOf 145 (upd (upd (upd (upd (upd anyF 1 (.ts .imm 1 (a1.map encInt))) 2 (.int .i64 a2)) 3 (.ptr 0 0 0)) 22 (.int .i64 a0.kind_)) 27 (.bool v6))) [some ⟨.box, 3, [[.int .i64 a0.kind_, .int .i64 a0.n_, .ts .imm 3 (a0.kids_.map (encl6T .imm))]]⟩] = some (X136_2 a1 a2 a0 v6 o) := by
 unfold m136_2 at h
 try simp -implicitDefEqProofs only [go_sem, X136_2, k136_2]
 cases b7 : (v6 : Bool)
 · replace h := br_f b7 h
   try simp -implicitDefEqProofs only [go_sem, X136_2, k136_2, b7]
   cases b19 : (eqI a0.kind_ 6 : Bool)
   · replace h := br_f b19 h
     try simp -implicitDefEqProofs only [go_sem, X136_2, k136_2, b7, b19]
     cases b60 : (eqI a0.kind_ 5 : Bool)
     · replace h := br_f b60 h
       try simp -implicitDefEqProofs only [go_sem, X136_2, k136_2, b7, b19, b60]
       cases b151 : (eqI a0.kind_ 7 : Bool)
       · replace h := br_f b151 h
         cases h
         simp -implicitDefEqProofs only [go_sem, X136_2, k136_2, b7, b19, b60, b151]
       · replace h := br_t b151 h
         obtain ⟨v326, q324, h⟩ := bnd_some h
         have w325 := e136_8 rc hrc a1 a0 [a2] v326 q324
         simp only [E136_8, X136_8] at w325
         try simp -implicitDefEqProofs only [go_sem] at w325
         cases h
         simp -implicitDefEqProofs only [go_sem, X136_2, k136_2, b7, b19, b60, b151, w325]
     · replace h := br_t b60 h
       obtain ⟨x61, q62, h⟩ := bnd_some h
       obtain ⟨g63, g64, g65⟩ := idx_row (encl6T .imm) q62
       try simp -implicitDefEqProofs only [go_sem] at g64
       try simp -implicitDefEqProofs only [go_sem] at g65
       obtain ⟨r68, q66, h⟩ := bnd_some h
       have w67 := hrc x61 a1 a2 r68 q66
       try simp -implicitDefEqProofs only [go_sem] at w67
       obtain ⟨v150, q148, h⟩ := bnd_some h
       have w149 := e136_5 rc hrc a1 (↑r68.length : Int) a0 r68 (0, []) v150 q148
       simp only [E136_5, X136_5] at w149
       try simp -implicitDefEqProofs only [go_sem] at w149
       cases h
       simp -implicitDefEqProofs only [go_sem, X136_2, k136_2, b7, b19, b60, g63, g64, g65, w67, w149]
   · replace h := br_t b19 h
     obtain ⟨x20, q21, h⟩ := bnd_some h
     obtain ⟨g22, g23, g24⟩ := idx_row (encl6T .imm) q21
     try simp -implicitDefEqProofs only [go_sem] at g23
     try simp -implicitDefEqProofs only [go_sem] at g24
     obtain ⟨r27, q25, h⟩ := bnd_some h
     have w26 := hrc x20 a1 a2 r27 q25
     try simp -implicitDefEqProofs only [go_sem] at w26
     obtain ⟨x28, q29, h⟩ := bnd_some h
     obtain ⟨g30, g31, g32⟩ := idx_row (encl6T .imm) q29
     try simp -implicitDefEqProofs only [go_sem] at g31
     try simp -implicitDefEqProofs only [go_sem] at g32
     obtain ⟨r35, q33, h⟩ := bnd_some h
     have w34 := hrc x28 a1 a2 r35 q33
     try simp -implicitDefEqProofs only [go_sem] at w34
     obtain ⟨v59, q57, h⟩ := bnd_some h
     have w58 := e136_4 rc hrc (↑r35.length : Int) r35 (0, r27) v59 q57
     simp only [E136_4, X136_4] at w58
     try simp -implicitDefEqProofs only [go_sem] at w58
     cases h
     simp -implicitDefEqProofs only [go_sem, X136_2, k136_2, b7, b19, g22, g23, g24, w26, g30, g31, g32, w34, w58]
 · replace h := br_t b7 h
   obtain ⟨v17, q15, h⟩ := bnd_some h
   have w16 := e136_3 rc hrc a1 a2 a0 v17 q15
   simp only [X136_3] at w16
   try simp -implicitDefEqProofs only [go_sem] at w16
   try simp -implicitDefEqProofs only [go_sem, X136_2, k136_2, b7, w16]
   cases b18 : (v17 : Bool)
   · replace h := br_f b18 h
     cases h
     simp -implicitDefEqProofs only [go_sem, X136_2, k136_2, b7, w16, b18]
   · replace h := br_t b18 h
     cases h
     simp -implicitDefEqProofs only [go_sem, X136_2, k136_2, b7, w16, b18]
theorem e136r (rc : l6T → (List Int) → Int → Option (List Int)) (hrc : ∀ (a0 : l6T) (a1 : (List Int)) (a2 : Int) (r : (List Int)), rc a0 a1 a2 = some r → evFL T 136 [.agg [.int .i64 a0.kind_, .int .i64 a0.n_, .ts .imm 3 (a0.kids_.map (encl6T .imm))], .ts .imm 1 (a1.map encInt), .int .i64 a2] [] = some (.sl 0 0 r.length, [some ⟨.arr, 1, r.map encInt⟩])) (a0 : l6T) (a1 : (List Int)) (a2 : Int) (r : (List Int)) (h : m136r rc a0 a1 a2 = some r) : evFL T 136 [.agg [.int .i64 a0.kind_, .int .i64 a0.n_, .ts .imm 3 (a0.kids_.map (encl6T .imm))], .ts .imm 1 (a1.map encInt), .int .i64 a2] [] = some (.sl 0 0 r.length, [some ⟨.arr, 1, r.map encInt⟩]) := by
 unfold m136r at h
 rw [evFL_at fn136 (Nat.le_of_ble_eq_true rfl) rfl (.inr rfl) ⟨rfl, rfl⟩]
 try simp -implicitDefEqProofs only [go_sem, i136, c136]
 cases b1 : (eqI a0.kind_ 2 : Bool)
 · replace h := br_f b1 h
   obtain ⟨v6, q4, h⟩ := bnd_some h
   have w5 := e136_1 rc hrc a1 a2 a0 (eqI a0.kind_ 3) v6 q4
   simp only [X136_1] at w5
   try simp -implicitDefEqProofs only [go_sem] at w5
   try simp -implicitDefEqProofs only [go_sem, i136, c136, b1, w5]
   obtain ⟨o, q327, h⟩ := bnd_some h
   rcases o with ⟨⟩ | v329
   · replace h := selS_l h
     have w328 := e136_2 rc hrc a1 a2 a0 v6 (.inl ()) q327
     simp only [X136_2] at w328
     try simp -implicitDefEqProofs only [go_sem] at w328
     cases h
     simp -implicitDefEqProofs only [go_sem, i136, c136, b1, w5, w328]
   · replace h := selS_r h
     have w328 := e136_2 rc hrc a1 a2 a0 v6 (.inr v329) q327
     simp only [X136_2] at w328
     try simp -implicitDefEqProofs only [go_sem] at w328
     cases h
     simp -implicitDefEqProofs only [go_sem, i136, c136, b1, w5, w328]
 · replace h := br_t b1 h
   cases h
   simp -implicitDefEqProofs only [go_sem, i136, c136, b1]
theorem e136k : ∀ (k : Nat) (a0 : l6T) (a1 : (List Int)) (a2 : Int) (r : (List Int)) (h : m136k k a0 a1 a2 = some r), evFL T 136 [.agg [.int .i64 a0.kind_, .int .i64 a0.n_, .ts .imm 3 (a0.kids_.map (encl6T .imm))], .ts .imm 1 (a1.map encInt), .int .i64 a2] [] = some (.sl 0 0 r.length, [some ⟨.arr, 1, r.map encInt⟩]) := by
 intro k
 induction k with
 | zero => intro a0 a1 a2 r h; cases h
 | succ k ih => intro a0 a1 a2 r h; exact e136r (m136k k) (fun a0 a1 a2 r h => ih a0 a1 a2 r h) a0 a1 a2 r h
theorem e136 (a0 : l6T) (a1 : (List Int)) (a2 : Int) (r : (List Int)) (h : m136 a0 a1 a2 = some r) : evFL T 136 [.agg [.int .i64 a0.kind_, .int .i64 a0.n_, .ts .imm 3 (a0.kids_.map (encl6T .imm))], .ts .imm 1 (a1.map encInt), .int .i64 a2] [] = some (.sl 0 0 r.length, [some ⟨.arr, 1, r.map encInt⟩]) := by
 obtain ⟨N, hN⟩ := limO_iff.1 h
 exact e136k N a0 a1 a2 r (hN N (Nat.le_refl N))
theorem call110 (args : List AV) (S : St) : evCall T (evFL T) 110 args S = lendC (evFL T 110) S (lendAll S [[1], [0]] args) := evCall0 fn110 rfl rfl rfl args S
theorem callz110 (args : List AV) (S : St) : evCallFz T (evFL T) 110 args S = lendZ (evFL T 110) S [[0]] (lendAll S [[1], [0]] args) := evCallFz0 fn110 rfl rfl rfl args S
attribute [go_sem] call110 callz110
noncomputable def X110_1 (a1 : Int) (a0 : (List Int)) (p1 : Int) (o : (Unit ⊕ Unit)) : Ex × Fr × St :=
 match o with
 | .inl o => (.exit 0, frOf 17 (anyF), [])
 | .inr o => (.ret, frOf 17 (upd anyF 4 (.bool true)), [])
noncomputable def E110_1 (a1 : Int) (a0 : (List Int)) (p1 : Int) (s : Int) : Fr × St := (frOf 17 (upd (upd (upd (upd anyF 1 (.int .i64 a1)) 7 (.ts .imm 1 (a0.map encInt))) 8 (.int .i64 p1)) 9 (.int .i64 s)), [])
theorem b110_1 (a1 : Int) (a0 : (List Int)) (p1 : Int) (s : Int) (o : Ctl Int (Unit ⊕ Unit)) (h : m110_1b a1 a0 p1 s = some o) : evCL T 0 k110_1b (E110_1 a1 a0 p1 s).1 (E110_1 a1 a0 p1 s).2 = some (ctlX (E110_1 a1 a0 p1) (X110_1 a1 a0 p1) o) := by
 unfold m110_1b at h
 revert h
 generalize s = s9
 intro h
 try simp -implicitDefEqProofs only [go_sem, E110_1, X110_1, k110_1b]
 cases b10 : (ltI s9 p1 : Bool)
 · replace h := br_f b10 h
   cases h
   simp -implicitDefEqProofs only [go_sem, E110_1, X110_1, k110_1b, b10]
 · replace h := br_t b10 h
   obtain ⟨x11, q12, h⟩ := bnd_some h
   obtain ⟨g13, g14, g15⟩ := idx_row encInt q12
   try simp -implicitDefEqProofs only [go_sem] at g14
   try simp -implicitDefEqProofs only [go_sem] at g15
   try simp -implicitDefEqProofs only [go_sem, E110_1, X110_1, k110_1b, b10, g13, g14, g15]
   cases b16 : (eqI x11 a1 : Bool)
   · replace h := br_f b16 h
     cases h
     simp -implicitDefEqProofs only [go_sem, E110_1, X110_1, k110_1b, b10, g13, g14, g15, b16]
   · replace h := br_t b16 h
     cases h
     simp -implicitDefEqProofs only [go_sem, E110_1, X110_1, k110_1b, b10, g13, g14, g15, b16]
theorem e110_1 (a1 : Int) (a0 : (List Int)) (p1 : Int) (s : Int) (o : (Unit ⊕ Unit)) (h : loopP (m110_1b a1 a0 p1) s = some o) : evCL T 0 (.loop k110_1b) (E110_1 a1 a0 p1 s).1 (E110_1 a1 a0 p1 s).2 = some (X110_1 a1 a0 p1 o) :=
 loop_walk (E := E110_1 a1 a0 p1) (X := X110_1 a1 a0 p1) (by intro b; rcases b with b | b <;> (simp only [X110_1]; nofun)) (b110_1 a1 a0 p1) s o h
theorem e110 (a0 : (List Int)) (a1 : Int) (r : Bool) (h : m110 a0 a1 = some r) : evFL T 110 [.ts .imm 1 (a0.map encInt), .int .i64 a1] [] = some (.bool r, []) := by
 unfold m110 at h
 rw [evFL_at fn110 (Nat.le_of_ble_eq_true rfl) rfl (.inr rfl) ⟨rfl, rfl⟩]
 try simp -implicitDefEqProofs only [go_sem, i110, c110]
 obtain ⟨o, q17, h⟩ := bnd_some h
 rcases o with ⟨⟩ | ⟨⟩
 · replace h := selS_l h
   have w18 := e110_1 a1 a0 (↑a0.length : Int) 0 (.inl ()) q17
   simp only [E110_1, X110_1] at w18
   try simp -implicitDefEqProofs only [go_sem] at w18
   cases h
   simp -implicitDefEqProofs only [go_sem, i110, c110, w18]
 · replace h := selS_r h
   have w18 := e110_1 a1 a0 (↑a0.length : Int) 0 (.inr ()) q17
   simp only [E110_1, X110_1] at w18
   try simp -implicitDefEqProofs only [go_sem] at w18
   cases h
   simp -implicitDefEqProofs only [go_sem, i110, c110, w18]
theorem call109 (args : List AV) (S : St) : evCall T (evFL T) 109 args S = lendC (evFL T 109) S (lendAll S [[2], [1]] args) := evCall0 fn109 rfl rfl rfl args S
theorem callz109 (args : List AV) (S : St) : evCallFz T (evFL T) 109 args S = lendZ (evFL T 109) S [[0], [0]] (lendAll S [[2], [1]] args) := evCallFz0 fn109 rfl rfl rfl args S
attribute [go_sem] call109 callz109
noncomputable def X109_1 (a1 : (List Int)) (r4 : Bool) (r3 : l6T) (o : Bool) : Ex × Fr × St :=
 (.normal, frOf 26 (upd (upd (upd anyF 1 (.ts .imm 1 (a1.map encInt))) 6 (.ptr 0 0 0)) 19 (.bool o)), [some ⟨.box, 3, [[.int .i64 r3.kind_, .int .i64 r3.n_, .sl 1 0 r3.kids_.length]]⟩, some ⟨.arr, 3, r3.kids_.map (encl6T .own)⟩])
theorem e109_1 (a1 : (List Int)) (r4 : Bool) (r3 : l6T) (o : Bool) (h : m109_1 a1 r4 = some o) : evCL T 0 k109_1 (frOf 26 (upd (upd (upd anyF 1 (.ts .imm 1 (a1.map encInt))) 6 (.ptr 0 0 0)) 7 (.bool r4))) [some ⟨.box, 3, [[.int .i64 r3.kind_, .int .i64 r3.n_, .sl 1 0 r3.kids_.length]]⟩, some ⟨.arr, 3, r3.kids_.map (encl6T .own)⟩] = some (X109_1 a1 r4 r3 o) := by
 unfold m109_1 at h
 try simp -implicitDefEqProofs only [go_sem, X109_1, k109_1]
 cases b5 : (r4 : Bool)
 · replace h := br_f b5 h
   cases h
   simp -implicitDefEqProofs only [go_sem, X109_1, k109_1, b5]
 · replace h := br_t b5 h
   obtain ⟨r8, q6, h⟩ := bnd_some h
   have w7 := e135 a1 r8 q6
   try simp -implicitDefEqProofs only [go_sem] at w7
   cases h
   simp -implicitDefEqProofs only [go_sem, X109_1, k109_1, b5, w7]
theorem e109 (a0 : (List ReCell)) (a1 : (List Int)) (r : (Bool × Bool)) (h : m109 a0 a1 = some r) : evFL T 109 [.ts .imm 2 (a0.map encReCell), .ts .imm 1 (a1.map encInt)] [] = some (.tup [.bool r.1, .bool r.2], []) := by
 unfold m109 at h
 rw [evFL_at fn109 (Nat.le_of_ble_eq_true rfl) rfl (.inr rfl) ⟨rfl, rfl⟩]
 obtain ⟨⟨r3, r4⟩, q1, h⟩ := bnd_some h
 replace h := sel2_some h
 have w2 := e122 a0 (r3, r4) q1
 try simp -implicitDefEqProofs only [go_sem] at w2
 obtain ⟨v11, q9, h⟩ := bnd_some h
 have w10 := e109_1 a1 r4 r3 v11 q9
 simp only [X109_1] at w10
 try simp -implicitDefEqProofs only [go_sem] at w10
 try simp -implicitDefEqProofs only [go_sem, i109, c109, w2, w10]
 cases b12 : (v11 : Bool)
 · replace h := br_f b12 h
   obtain ⟨r15, q13, h⟩ := bnd_some h
   have w14 := e136 r3 a1 0 r15 q13
   try simp -implicitDefEqProofs only [go_sem] at w14
   obtain ⟨r18, q16, h⟩ := bnd_some h
   have w17 := e110 r15 (↑a1.length : Int) r18 q16
   try simp -implicitDefEqProofs only [go_sem] at w17
   cases h
   simp -implicitDefEqProofs only [go_sem, i109, c109, w2, w10, b12, w14, w17]
 · replace h := br_t b12 h
   cases h
   simp -implicitDefEqProofs only [go_sem, i109, c109, w2, w10, b12]
theorem call62 (args : List AV) (S : St) : evCall T (evFL T) 62 args S = lendC (evFL T 62) S (lendAll S [[4, 2, 0, 2, 0], [0, 0, 0, 1, 0, 0, 0, 1]] args) := evCall0 fn62 rfl rfl rfl args S
theorem callz62 (args : List AV) (S : St) : evCallFz T (evFL T) 62 args S = lendZ (evFL T 62) S [[0]] (lendAll S [[4, 2, 0, 2, 0], [0, 0, 0, 1, 0, 0, 0, 1]] args) := evCallFz0 fn62 rfl rfl rfl args S
attribute [go_sem] call62 callz62
noncomputable def X62_4 (s20 : Bool) (a0 : Term) (p3 : Int) (s21 : Int) (a1 : Route) (x23 : Range) (o : Bool) : Ex × Fr × St :=
 (.normal, frOf 68 (upd (upd (upd (upd (upd (upd anyF 2 (.ptr 0 0 0)) 3 (.ptr 1 0 0)) 5 (.bool o)) 15 (.ts .imm 4 (a0.ranges.map encRange))) 16 (.int .i64 p3)) 17 (.int .i64 s21)), [some ⟨.box, 5, [[.ts .imm 4 (a0.ranges.map encRange), .ts .imm 2 (a0.path.map encReCell), .int .i64 a0.comm, .ts .imm 2 (a0.acts.map encAcn), .int .i64 a0.verdict]]⟩, some ⟨.box, 8, [[.int .i64 a1.prefix_.addr, .int .i64 a1.prefix_.len, .int .i64 a1.attrs.origin, .ts .imm 1 (a1.attrs.path.map encInt), .int .i64 a1.attrs.next, .int .i64 a1.attrs.med, .int .i64 a1.attrs.pref, .ts .imm 1 (a1.attrs.comms.map encInt)]]⟩])
theorem e62_4 (s20 : Bool) (a0 : Term) (p3 : Int) (s21 : Int) (a1 : Route) (x23 : Range) (o : Bool) (h : m62_4 s20 a1 x23 = some o) : evCL T 0 k62_4 (frOf 68 (upd (upd (upd (upd (upd (upd (upd anyF 2 (.ptr 0 0 0)) 3 (.ptr 1 0 0)) 5 (.bool s20)) 7 (.ptr 2 0 0)) 15 (.ts .imm 4 (a0.ranges.map encRange))) 16 (.int .i64 p3)) 17 (.int .i64 s21))) [some ⟨.box, 5, [[.ts .imm 4 (a0.ranges.map encRange), .ts .imm 2 (a0.path.map encReCell), .int .i64 a0.comm, .ts .imm 2 (a0.acts.map encAcn), .int .i64 a0.verdict]]⟩, some ⟨.box, 8, [[.int .i64 a1.prefix_.addr, .int .i64 a1.prefix_.len, .int .i64 a1.attrs.origin, .ts .imm 1 (a1.attrs.path.map encInt), .int .i64 a1.attrs.next, .int .i64 a1.attrs.med, .int .i64 a1.attrs.pref, .ts .imm 1 (a1.attrs.comms.map encInt)]]⟩, some ⟨.box, 4, [[.int .i64 x23.prefix_.addr, .int .i64 x23.prefix_.len, .int .i64 x23.lo, .int .i64 x23.hi]]⟩] = some (X62_4 s20 a0 p3 s21 a1 x23 o) := by
 unfold m62_4 at h
 try simp -implicitDefEqProofs only [go_sem, X62_4, k62_4]
 cases b28 : (s20 : Bool)
 · replace h := br_f b28 h
   obtain ⟨r31, q29, h⟩ := bnd_some h
   have w30 := e108 x23.prefix_ a1.prefix_ r31 q29
   try simp -implicitDefEqProofs only [go_sem] at w30
   try simp -implicitDefEqProofs only [go_sem, X62_4, k62_4, b28, w30]
   cases b32 : (r31 : Bool)
   · replace h := br_f b32 h
     cases h
     simp -implicitDefEqProofs only [go_sem, X62_4, k62_4, b28, w30, b32]
   · replace h := br_t b32 h
     obtain ⟨r35, q33, h⟩ := bnd_some h
     have w34 := e71 a1.prefix_.len x23.lo x23.hi r35 q33
     try simp -implicitDefEqProofs only [go_sem] at w34
     cases h
     simp -implicitDefEqProofs only [go_sem, X62_4, k62_4, b28, w30, b32, w34]
 · replace h := br_t b28 h
   cases h
   simp -implicitDefEqProofs only [go_sem, X62_4, k62_4, b28]
noncomputable def X62_2 (a0 : Term) (p3 : Int) (a1 : Route) (o : Bool) : Ex × Fr × St :=
 (.exit 0, frOf 68 (upd (upd (upd anyF 2 (.ptr 0 0 0)) 3 (.ptr 1 0 0)) 5 (.bool o)), [some ⟨.box, 5, [[.ts .imm 4 (a0.ranges.map encRange), .ts .imm 2 (a0.path.map encReCell), .int .i64 a0.comm, .ts .imm 2 (a0.acts.map encAcn), .int .i64 a0.verdict]]⟩, some ⟨.box, 8, [[.int .i64 a1.prefix_.addr, .int .i64 a1.prefix_.len, .int .i64 a1.attrs.origin, .ts .imm 1 (a1.attrs.path.map encInt), .int .i64 a1.attrs.next, .int .i64 a1.attrs.med, .int .i64 a1.attrs.pref, .ts .imm 1 (a1.attrs.comms.map encInt)]]⟩])
noncomputable def E62_2 (a0 : Term) (p3 : Int) (a1 : Route) (s : (Bool × Int)) : Fr × St := (frOf 68 (upd (upd (upd (upd (upd (upd anyF 2 (.ptr 0 0 0)) 3 (.ptr 1 0 0)) 5 (.bool s.1)) 15 (.ts .imm 4 (a0.ranges.map encRange))) 16 (.int .i64 p3)) 17 (.int .i64 s.2)), [some ⟨.box, 5, [[.ts .imm 4 (a0.ranges.map encRange), .ts .imm 2 (a0.path.map encReCell), .int .i64 a0.comm, .ts .imm 2 (a0.acts.map encAcn), .int .i64 a0.verdict]]⟩, some ⟨.box, 8, [[.int .i64 a1.prefix_.addr, .int .i64 a1.prefix_.len, .int .i64 a1.attrs.origin, .ts .imm 1 (a1.attrs.path.map encInt), .int .i64 a1.attrs.next, .int .i64 a1.attrs.med, .int .i64 a1.attrs.pref, .ts .imm 1 (a1.attrs.comms.map encInt)]]⟩])
theorem b62_2 (a0 : Term) (p3 : Int) (a1 : Route) (s : (Bool × Int)) (o : Ctl (Bool × Int) Bool) (h : m62_2b a0 p3 a1 s = some o) : evCL T 0 k62_2b (E62_2 a0 p3 a1 s).1 (E62_2 a0 p3 a1 s).2 = some (ctlX (E62_2 a0 p3 a1) (X62_2 a0 p3 a1) o) := by
 unfold m62_2b at h
 obtain ⟨s20, s21⟩ := s
 replace h := sel2_some h
 try simp -implicitDefEqProofs only [go_sem, E62_2, X62_2, k62_2b]
 cases b22 : (ltI s21 p3 : Bool)
 · replace h := br_f b22 h
   cases h
   simp -implicitDefEqProofs only [go_sem, E62_2, X62_2, k62_2b, b22]
 · replace h := br_t b22 h
   obtain ⟨x23, q24, h⟩ := bnd_some h
   obtain ⟨g25, g26, g27⟩ := idx_row encRange q24
   try simp -implicitDefEqProofs only [go_sem] at g26
   try simp -implicitDefEqProofs only [go_sem] at g27
   obtain ⟨v38, q36, h⟩ := bnd_some h
   have w37 := e62_4 s20 a0 p3 s21 a1 x23 v38 q36
   simp only [X62_4] at w37
   try simp -implicitDefEqProofs only [go_sem] at w37
   cases h
   simp -implicitDefEqProofs only [go_sem, E62_2, X62_2, k62_2b, b22, g25, g26, g27, w37]
theorem e62_2 (a0 : Term) (p3 : Int) (a1 : Route) (s : (Bool × Int)) (o : Bool) (h : loopP (m62_2b a0 p3 a1) s = some o) : evCL T 0 (.loop k62_2b) (E62_2 a0 p3 a1 s).1 (E62_2 a0 p3 a1 s).2 = some (X62_2 a0 p3 a1 o) :=
 loop_walk (E := E62_2 a0 p3 a1) (X := X62_2 a0 p3 a1) (by intro b; (simp only [X62_2]; nofun)) (b62_2 a0 p3 a1) s o h
noncomputable def X62_1 (p1 : Bool) (a0 : Term) (a1 : Route) (o : (Unit ⊕ Unit)) : Ex × Fr × St :=
 match o with
 | .inl o => (.normal, frOf 68 (upd (upd anyF 2 (.ptr 0 0 0)) 3 (.ptr 1 0 0)), [some ⟨.box, 5, [[.ts .imm 4 (a0.ranges.map encRange), .ts .imm 2 (a0.path.map encReCell), .int .i64 a0.comm, .ts .imm 2 (a0.acts.map encAcn), .int .i64 a0.verdict]]⟩, some ⟨.box, 8, [[.int .i64 a1.prefix_.addr, .int .i64 a1.prefix_.len, .int .i64 a1.attrs.origin, .ts .imm 1 (a1.attrs.path.map encInt), .int .i64 a1.attrs.next, .int .i64 a1.attrs.med, .int .i64 a1.attrs.pref, .ts .imm 1 (a1.attrs.comms.map encInt)]]⟩])
 | .inr o => (.ret, frOf 68 (upd anyF 4 (.bool false)), [])
theorem e62_1 (p1 : Bool) (a0 : Term) (a1 : Route) (o : (Unit ⊕ Unit)) (h : m62_1 p1 a0 a1 = some o) : evCL T 0 k62_1 (frOf 68 (upd (upd (upd anyF 2 (.ptr 0 0 0)) 3 (.ptr 1 0 0)) 13 (.bool p1))) [some ⟨.box, 5, [[.ts .imm 4 (a0.ranges.map encRange), .ts .imm 2 (a0.path.map encReCell), .int .i64 a0.comm, .ts .imm 2 (a0.acts.map encAcn), .int .i64 a0.verdict]]⟩, some ⟨.box, 8, [[.int .i64 a1.prefix_.addr, .int .i64 a1.prefix_.len, .int .i64 a1.attrs.origin, .ts .imm 1 (a1.attrs.path.map encInt), .int .i64 a1.attrs.next, .int .i64 a1.attrs.med, .int .i64 a1.attrs.pref, .ts .imm 1 (a1.attrs.comms.map encInt)]]⟩] = some (X62_1 p1 a0 a1 o) := by
 unfold m62_1 at h
 try simp -implicitDefEqProofs only [go_sem, X62_1, k62_1]
 cases b2 : (p1 : Bool)
 · replace h := br_f b2 h
   cases h
   simp -implicitDefEqProofs only [go_sem, X62_1, k62_1, b2]
 · replace h := br_t b2 h
   obtain ⟨v41, q39, h⟩ := bnd_some h
   have w40 := e62_2 a0 (↑a0.ranges.length : Int) a1 (false, 0) v41 q39
   simp only [E62_2, X62_2] at w40
   try simp -implicitDefEqProofs only [go_sem] at w40
   try simp -implicitDefEqProofs only [go_sem, X62_1, k62_1, b2, w40]
   cases b42 : (v41 : Bool)
   · replace h := br_f b42 h
     cases h
     simp -implicitDefEqProofs only [go_sem, X62_1, k62_1, b2, w40, b42]
   · replace h := br_t b42 h
     cases h
     simp -implicitDefEqProofs only [go_sem, X62_1, k62_1, b2, w40, b42]
noncomputable def X62_5 (p45 : Bool) (a0 : Term) (a1 : Route) (o : (Unit ⊕ Unit)) : Ex × Fr × St :=
 match o with
 | .inl o => (.normal, frOf 68 (upd (upd anyF 2 (.ptr 0 0 0)) 3 (.ptr 1 0 0)), [some ⟨.box, 5, [[.ts .imm 4 (a0.ranges.map encRange), .ts .imm 2 (a0.path.map encReCell), .int .i64 a0.comm, .ts .imm 2 (a0.acts.map encAcn), .int .i64 a0.verdict]]⟩, some ⟨.box, 8, [[.int .i64 a1.prefix_.addr, .int .i64 a1.prefix_.len, .int .i64 a1.attrs.origin, .ts .imm 1 (a1.attrs.path.map encInt), .int .i64 a1.attrs.next, .int .i64 a1.attrs.med, .int .i64 a1.attrs.pref, .ts .imm 1 (a1.attrs.comms.map encInt)]]⟩])
 | .inr o => (.ret, frOf 68 (upd anyF 4 (.bool false)), [])
theorem e62_5 (p45 : Bool) (a0 : Term) (a1 : Route) (o : (Unit ⊕ Unit)) (h : m62_5 p45 a0 a1 = some o) : evCL T 0 k62_5 (frOf 68 (upd (upd (upd anyF 2 (.ptr 0 0 0)) 3 (.ptr 1 0 0)) 45 (.bool p45))) [some ⟨.box, 5, [[.ts .imm 4 (a0.ranges.map encRange), .ts .imm 2 (a0.path.map encReCell), .int .i64 a0.comm, .ts .imm 2 (a0.acts.map encAcn), .int .i64 a0.verdict]]⟩, some ⟨.box, 8, [[.int .i64 a1.prefix_.addr, .int .i64 a1.prefix_.len, .int .i64 a1.attrs.origin, .ts .imm 1 (a1.attrs.path.map encInt), .int .i64 a1.attrs.next, .int .i64 a1.attrs.med, .int .i64 a1.attrs.pref, .ts .imm 1 (a1.attrs.comms.map encInt)]]⟩] = some (X62_5 p45 a0 a1 o) := by
 unfold m62_5 at h
 try simp -implicitDefEqProofs only [go_sem, X62_5, k62_5]
 cases b46 : (p45 : Bool)
 · replace h := br_f b46 h
   cases h
   simp -implicitDefEqProofs only [go_sem, X62_5, k62_5, b46]
 · replace h := br_t b46 h
   obtain ⟨⟨r49, r50⟩, q47, h⟩ := bnd_some h
   replace h := sel2_some h
   have w48 := e109 a0.path a1.attrs.path (r49, r50) q47
   try simp -implicitDefEqProofs only [go_sem] at w48
   try simp -implicitDefEqProofs only [go_sem, X62_5, k62_5, b46, w48]
   cases b51 : (r49 : Bool)
   · replace h := br_f b51 h
     cases h
     simp -implicitDefEqProofs only [go_sem, X62_5, k62_5, b46, w48, b51]
   · replace h := br_t b51 h
     cases h
     simp -implicitDefEqProofs only [go_sem, X62_5, k62_5, b46, w48, b51]
noncomputable def X62_6 (a0 : Term) (a1 : Route) (o : Bool) : Ex × Fr × St :=
 (.normal, frOf 68 (upd anyF 4 (.bool o)), [])
theorem e62_6 (a0 : Term) (a1 : Route) (o : Bool) (h : m62_6 a0 a1 = some o) : evCL T 0 k62_6 (frOf 68 (upd (upd anyF 2 (.ptr 0 0 0)) 3 (.ptr 1 0 0))) [some ⟨.box, 5, [[.ts .imm 4 (a0.ranges.map encRange), .ts .imm 2 (a0.path.map encReCell), .int .i64 a0.comm, .ts .imm 2 (a0.acts.map encAcn), .int .i64 a0.verdict]]⟩, some ⟨.box, 8, [[.int .i64 a1.prefix_.addr, .int .i64 a1.prefix_.len, .int .i64 a1.attrs.origin, .ts .imm 1 (a1.attrs.path.map encInt), .int .i64 a1.attrs.next, .int .i64 a1.attrs.med, .int .i64 a1.attrs.pref, .ts .imm 1 (a1.attrs.comms.map encInt)]]⟩] = some (X62_6 a0 a1 o) := by
 unfold m62_6 at h
 try simp -implicitDefEqProofs only [go_sem, X62_6, k62_6]
 cases b54 : (eqI a0.comm (-1) : Bool)
 · replace h := br_f b54 h
   obtain ⟨r57, q55, h⟩ := bnd_some h
   have w56 := e110 a1.attrs.comms a0.comm r57 q55
   try simp -implicitDefEqProofs only [go_sem] at w56
   cases h
   simp -implicitDefEqProofs only [go_sem, X62_6, k62_6, b54, w56]
 · replace h := br_t b54 h
   cases h
   simp -implicitDefEqProofs only [go_sem, X62_6, k62_6, b54]
theorem e62 (a0 : Term) (a1 : Route) (r : Bool) (h : m62 a0 a1 = some r) : evFL T 62 [.agg [.ts .imm 4 (a0.ranges.map encRange), .ts .imm 2 (a0.path.map encReCell), .int .i64 a0.comm, .ts .imm 2 (a0.acts.map encAcn), .int .i64 a0.verdict], .agg [.int .i64 a1.prefix_.addr, .int .i64 a1.prefix_.len, .int .i64 a1.attrs.origin, .ts .imm 1 (a1.attrs.path.map encInt), .int .i64 a1.attrs.next, .int .i64 a1.attrs.med, .int .i64 a1.attrs.pref, .ts .imm 1 (a1.attrs.comms.map encInt)]] [] = some (.bool r, []) := by
 unfold m62 at h
 rw [evFL_at fn62 (Nat.le_of_ble_eq_true rfl) rfl (.inr rfl) ⟨rfl, rfl⟩]
 try simp -implicitDefEqProofs only [go_sem, i62, c62]
 obtain ⟨o, q43, h⟩ := bnd_some h
 rcases o with ⟨⟩ | ⟨⟩
 · replace h := selS_l h
   have w44 := e62_1 (ltI 0 (↑a0.ranges.length : Int)) a0 a1 (.inl ()) q43
   simp only [X62_1] at w44
   try simp -implicitDefEqProofs only [go_sem] at w44
   try simp -implicitDefEqProofs only [go_sem, i62, c62, w44]
   obtain ⟨o, q52, h⟩ := bnd_some h
   rcases o with ⟨⟩ | ⟨⟩
   · replace h := selS_l h
     have w53 := e62_5 (ltI 0 (↑a0.path.length : Int)) a0 a1 (.inl ()) q52
     simp only [X62_5] at w53
     try simp -implicitDefEqProofs only [go_sem] at w53
     obtain ⟨v60, q58, h⟩ := bnd_some h
     have w59 := e62_6 a0 a1 v60 q58
     simp only [X62_6] at w59
     try simp -implicitDefEqProofs only [go_sem] at w59
     cases h
     simp -implicitDefEqProofs only [go_sem, i62, c62, w44, w53, w59]
   · replace h := selS_r h
     have w53 := e62_5 (ltI 0 (↑a0.path.length : Int)) a0 a1 (.inr ()) q52
     simp only [X62_5] at w53
     try simp -implicitDefEqProofs only [go_sem] at w53
     cases h
     simp -implicitDefEqProofs only [go_sem, i62, c62, w44, w53]
 · replace h := selS_r h
   have w44 := e62_1 (ltI 0 (↑a0.ranges.length : Int)) a0 a1 (.inr ()) q43
   simp only [X62_1] at w44
   try simp -implicitDefEqProofs only [go_sem] at w44
   cases h
   simp -implicitDefEqProofs only [go_sem, i62, c62, w44]
theorem call28 (args : List AV) (S : St) : evCall T (evFL T) 28 args S = lendC (evFL T 28) S (lendAll S [[4, 2, 0, 2, 0], [0, 0, 0, 1, 0, 0, 0, 1]] args) := evCall0 fn28 rfl rfl rfl args S
theorem callz28 (args : List AV) (S : St) : evCallFz T (evFL T) 28 args S = lendZ (evFL T 28) S [[0], [0]] (lendAll S [[4, 2, 0, 2, 0], [0, 0, 0, 1, 0, 0, 0, 1]] args) := evCallFz0 fn28 rfl rfl rfl args S
attribute [go_sem] call28 callz28
noncomputable def X28_1 (a0 : Term) (a1 : Route) (o : Bool) : Ex × Fr × St :=
 (.normal, frOf 17 (upd (upd (upd anyF 2 (.ptr 0 0 0)) 3 (.ptr 1 0 0)) 13 (.bool o)), [some ⟨.box, 5, [[.ts .imm 4 (a0.ranges.map encRange), .ts .imm 2 (a0.path.map encReCell), .int .i64 a0.comm, .ts .imm 2 (a0.acts.map encAcn), .int .i64 a0.verdict]]⟩, some ⟨.box, 8, [[.int .i64 a1.prefix_.addr, .int .i64 a1.prefix_.len, .int .i64 a1.attrs.origin, .ts .imm 1 (a1.attrs.path.map encInt), .int .i64 a1.attrs.next, .int .i64 a1.attrs.med, .int .i64 a1.attrs.pref, .ts .imm 1 (a1.attrs.comms.map encInt)]]⟩])
theorem e28_1 (a0 : Term) (a1 : Route) (o : Bool) (h : m28_1 a0 a1 = some o) : evCL T 0 k28_1 (frOf 17 (upd (upd anyF 2 (.ptr 0 0 0)) 3 (.ptr 1 0 0))) [some ⟨.box, 5, [[.ts .imm 4 (a0.ranges.map encRange), .ts .imm 2 (a0.path.map encReCell), .int .i64 a0.comm, .ts .imm 2 (a0.acts.map encAcn), .int .i64 a0.verdict]]⟩, some ⟨.box, 8, [[.int .i64 a1.prefix_.addr, .int .i64 a1.prefix_.len, .int .i64 a1.attrs.origin, .ts .imm 1 (a1.attrs.path.map encInt), .int .i64 a1.attrs.next, .int .i64 a1.attrs.med, .int .i64 a1.attrs.pref, .ts .imm 1 (a1.attrs.comms.map encInt)]]⟩] = some (X28_1 a0 a1 o) := by
 unfold m28_1 at h
 obtain ⟨r3, q1, h⟩ := bnd_some h
 have w2 := e42 a0 r3 q1
 try simp -implicitDefEqProofs only [go_sem] at w2
 try simp -implicitDefEqProofs only [go_sem, X28_1, k28_1, w2]
 cases b4 : (r3 : Bool)
 · replace h := br_f b4 h
   cases h
   simp -implicitDefEqProofs only [go_sem, X28_1, k28_1, w2, b4]
 · replace h := br_t b4 h
   obtain ⟨r7, q5, h⟩ := bnd_some h
   have w6 := e9 a1 r7 q5
   try simp -implicitDefEqProofs only [go_sem] at w6
   cases h
   simp -implicitDefEqProofs only [go_sem, X28_1, k28_1, w2, b4, w6]
theorem e28 (a0 : Term) (a1 : Route) (r : (Bool × Bool)) (h : m28 a0 a1 = some r) : evFL T 28 [.agg [.ts .imm 4 (a0.ranges.map encRange), .ts .imm 2 (a0.path.map encReCell), .int .i64 a0.comm, .ts .imm 2 (a0.acts.map encAcn), .int .i64 a0.verdict], .agg [.int .i64 a1.prefix_.addr, .int .i64 a1.prefix_.len, .int .i64 a1.attrs.origin, .ts .imm 1 (a1.attrs.path.map encInt), .int .i64 a1.attrs.next, .int .i64 a1.attrs.med, .int .i64 a1.attrs.pref, .ts .imm 1 (a1.attrs.comms.map encInt)]] [] = some (.tup [.bool r.1, .bool r.2], []) := by
 unfold m28 at h
 rw [evFL_at fn28 (Nat.le_of_ble_eq_true rfl) rfl (.inr rfl) ⟨rfl, rfl⟩]
 obtain ⟨v10, q8, h⟩ := bnd_some h
 have w9 := e28_1 a0 a1 v10 q8
 simp only [X28_1] at w9
 try simp -implicitDefEqProofs only [go_sem] at w9
 try simp -implicitDefEqProofs only [go_sem, i28, c28, w9]
 cases b11 : (v10 : Bool)
 · replace h := br_f b11 h
   obtain ⟨r14, q12, h⟩ := bnd_some h
   have w13 := e62 a0 a1 r14 q12
   try simp -implicitDefEqProofs only [go_sem] at w13
   cases h
   simp -implicitDefEqProofs only [go_sem, i28, c28, w9, b11, w13]
 · replace h := br_t b11 h
   cases h
   simp -implicitDefEqProofs only [go_sem, i28, c28, w9, b11]
end Go.Pi.Ythidbgihjhkjaaa.TermFits
