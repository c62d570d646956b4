/- no condition -/
import Derived.Test.YthidbgihjhkjaaaGreatFilterRoutesTabFilterRoutes
import Derived.Test.YthidbgihjhkjaaaGreatFilterRoutesModFilterRoutes
set_option linter.all false
namespace Go.Pi.YthidbgihjhkjaaaGreat.FilterRoutes
open Go Go.Proofs Go.Pi
set_option maxRecDepth 100000
set_option linter.all false
@[go_sem] noncomputable def nInt (x:Int):List AV:=[.int .i64 x]
theorem sq_encInt (q:Ql)(x:Int):setQL q (nInt x)=nInt x:=by simp [nInt]
theorem sqm_encInt (q:Ql)(xs:List Int):setQLL q (xs.map nInt)=xs.map nInt:=by rw [setQLL_map];exact List.map_congr_left (fun x _=>sq_encInt q x)
theorem ow_encInt (x:Int):ownOnlyL (nInt x)=true:=by simp [nInt,ownOnlyL,ownOnly,ownLL_map]
theorem owm_encInt (xs:List Int):ownOnlyLL (xs.map nInt)=true:=ownLL_map _ ow_encInt xs
theorem fi_encInt (x:Int):fine.fineL (nInt x)=true:=by simp [nInt,fine.fineL,fine,fineLL_map]
theorem fim_encInt (xs:List Int):fine.fineLL (xs.map nInt)=true:=fineLL_map _ fi_encInt xs
theorem nu_encInt (x:Int):nude.nudeL (nInt x)=true:=by simp [nInt,nude.nudeL,nude,nudeLL_map]
theorem num_encInt (xs:List Int):nude.nudeLL (xs.map nInt)=true:=nudeLL_map _ nu_encInt xs
@[go_sem] theorem st_encInt (q:Ql)(xs:List Int):(xs.map nInt).map (fun x=>x.map (setTop q))=xs.map nInt:=by rw [List.map_map];rfl
attribute [simp] sqm_encInt ow_encInt owm_encInt fi_encInt fim_encInt nu_encInt num_encInt
attribute [go_sem] sqm_encInt owm_encInt fim_encInt num_encInt
@[go_sem] noncomputable def nPre (x:Prefix):List AV:=[.int .i64 x.addr,.int .i64 x.len]
@[go_sem] noncomputable def nRan (x:Range):List AV:=[.int .i64 x.prefix_.addr,.int .i64 x.prefix_.len,.int .i64 x.lo,.int .i64 x.hi]
theorem sq_encRange (q:Ql)(x:Range):setQL q (nRan x)=nRan x:=by simp [nRan]
theorem sqm_encRange (q:Ql)(xs:List Range):setQLL q (xs.map nRan)=xs.map nRan:=by rw [setQLL_map];exact List.map_congr_left (fun x _=>sq_encRange q x)
theorem ow_encRange (x:Range):ownOnlyL (nRan x)=true:=by simp [nRan,ownOnlyL,ownOnly,ownLL_map]
theorem owm_encRange (xs:List Range):ownOnlyLL (xs.map nRan)=true:=ownLL_map _ ow_encRange xs
theorem fi_encRange (x:Range):fine.fineL (nRan x)=true:=by simp [nRan,fine.fineL,fine,fineLL_map]
theorem fim_encRange (xs:List Range):fine.fineLL (xs.map nRan)=true:=fineLL_map _ fi_encRange xs
theorem nu_encRange (x:Range):nude.nudeL (nRan x)=true:=by simp [nRan,nude.nudeL,nude,nudeLL_map]
theorem num_encRange (xs:List Range):nude.nudeLL (xs.map nRan)=true:=nudeLL_map _ nu_encRange xs
@[go_sem] theorem st_encRange (q:Ql)(xs:List Range):(xs.map nRan).map (fun x=>x.map (setTop q))=xs.map nRan:=by rw [List.map_map];rfl
attribute [simp] sqm_encRange ow_encRange owm_encRange fi_encRange fim_encRange nu_encRange num_encRange
attribute [go_sem] sqm_encRange owm_encRange fim_encRange num_encRange
@[go_sem] noncomputable def nLRa (q:Ql)(x:List Range):List AV:=[.ts q 4 (x.map nRan)]
@[go_sem] noncomputable def nReC (x:ReCell):List AV:=[.int .i64 x.kind,.int .i64 x.n]
theorem sq_encReCell (q:Ql)(x:ReCell):setQL q (nReC x)=nReC x:=by simp [nReC]
theorem sqm_encReCell (q:Ql)(xs:List ReCell):setQLL q (xs.map nReC)=xs.map nReC:=by rw [setQLL_map];exact List.map_congr_left (fun x _=>sq_encReCell q x)
theorem ow_encReCell (x:ReCell):ownOnlyL (nReC x)=true:=by simp [nReC,ownOnlyL,ownOnly,ownLL_map]
theorem owm_encReCell (xs:List ReCell):ownOnlyLL (xs.map nReC)=true:=ownLL_map _ ow_encReCell xs
theorem fi_encReCell (x:ReCell):fine.fineL (nReC x)=true:=by simp [nReC,fine.fineL,fine,fineLL_map]
theorem fim_encReCell (xs:List ReCell):fine.fineLL (xs.map nReC)=true:=fineLL_map _ fi_encReCell xs
theorem nu_encReCell (x:ReCell):nude.nudeL (nReC x)=true:=by simp [nReC,nude.nudeL,nude,nudeLL_map]
theorem num_encReCell (xs:List ReCell):nude.nudeLL (xs.map nReC)=true:=nudeLL_map _ nu_encReCell xs
@[go_sem] theorem st_encReCell (q:Ql)(xs:List ReCell):(xs.map nReC).map (fun x=>x.map (setTop q))=xs.map nReC:=by rw [List.map_map];rfl
attribute [simp] sqm_encReCell ow_encReCell owm_encReCell fi_encReCell fim_encReCell nu_encReCell num_encReCell
attribute [go_sem] sqm_encReCell owm_encReCell fim_encReCell num_encReCell
@[go_sem] noncomputable def nLRe (q:Ql)(x:List ReCell):List AV:=[.ts q 2 (x.map nReC)]
@[go_sem] noncomputable def nAcn (x:Acn):List AV:=[.int .i64 x.kind,.int .i64 x.n]
theorem sq_encAcn (q:Ql)(x:Acn):setQL q (nAcn x)=nAcn x:=by simp [nAcn]
theorem sqm_encAcn (q:Ql)(xs:List Acn):setQLL q (xs.map nAcn)=xs.map nAcn:=by rw [setQLL_map];exact List.map_congr_left (fun x _=>sq_encAcn q x)
theorem ow_encAcn (x:Acn):ownOnlyL (nAcn x)=true:=by simp [nAcn,ownOnlyL,ownOnly,ownLL_map]
theorem owm_encAcn (xs:List Acn):ownOnlyLL (xs.map nAcn)=true:=ownLL_map _ ow_encAcn xs
theorem fi_encAcn (x:Acn):fine.fineL (nAcn x)=true:=by simp [nAcn,fine.fineL,fine,fineLL_map]
theorem fim_encAcn (xs:List Acn):fine.fineLL (xs.map nAcn)=true:=fineLL_map _ fi_encAcn xs
theorem nu_encAcn (x:Acn):nude.nudeL (nAcn x)=true:=by simp [nAcn,nude.nudeL,nude,nudeLL_map]
theorem num_encAcn (xs:List Acn):nude.nudeLL (xs.map nAcn)=true:=nudeLL_map _ nu_encAcn xs
@[go_sem] theorem st_encAcn (q:Ql)(xs:List Acn):(xs.map nAcn).map (fun x=>x.map (setTop q))=xs.map nAcn:=by rw [List.map_map];rfl
attribute [simp] sqm_encAcn ow_encAcn owm_encAcn fi_encAcn fim_encAcn nu_encAcn num_encAcn
attribute [go_sem] sqm_encAcn owm_encAcn fim_encAcn num_encAcn
@[go_sem] noncomputable def nLAc (q:Ql)(x:List Acn):List AV:=[.ts q 2 (x.map nAcn)]
@[go_sem] noncomputable def nTer (q:Ql)(x:Term):List AV:=[.ts q 4 (x.ranges.map nRan),.ts q 2 (x.path.map nReC),.int .i64 x.comm,.ts q 2 (x.acts.map nAcn),.int .i64 x.verdict]
theorem sq_encTerm (q q1:Ql)(x:Term):setQL q (nTer q1 x)=nTer q x:=by simp [nTer,sq_encRange,sq_encReCell,sq_encAcn]
theorem sqm_encTerm (q q1:Ql)(xs:List Term):setQLL q (xs.map (nTer q1))=xs.map (nTer q):=by rw [setQLL_map];exact List.map_congr_left (fun x _=>sq_encTerm q q1 x)
theorem ow_encTerm (x:Term):ownOnlyL (nTer .own x)=true:=by simp [nTer,ownOnlyL,ownOnly,ownLL_map]
theorem owm_encTerm (xs:List Term):ownOnlyLL (xs.map (nTer .own))=true:=ownLL_map _ ow_encTerm xs
theorem fi_encTerm (x:Term):fine.fineL (nTer .own x)=true:=by simp [nTer,fine.fineL,fine,fineLL_map]
theorem fim_encTerm (xs:List Term):fine.fineLL (xs.map (nTer .own))=true:=fineLL_map _ fi_encTerm xs
theorem nu_encTerm (x:Term):nude.nudeL (nTer .own x)=true:=by simp [nTer,nude.nudeL,nude,nudeLL_map]
theorem num_encTerm (xs:List Term):nude.nudeLL (xs.map (nTer .own))=true:=nudeLL_map _ nu_encTerm xs
@[go_sem] theorem st_encTerm (q q1:Ql)(xs:List Term):(xs.map (nTer q1)).map (fun x=>x.map (setTop q))=xs.map (nTer q):=by rw [List.map_map];rfl
attribute [simp] sqm_encTerm ow_encTerm owm_encTerm fi_encTerm fim_encTerm nu_encTerm num_encTerm
attribute [go_sem] sqm_encTerm owm_encTerm fim_encTerm num_encTerm
@[go_sem] noncomputable def nLTe (q:Ql)(x:List Term):List AV:=[.ts q 5 (x.map (nTer q))]
@[go_sem] noncomputable def nBoo (x:Bool):List AV:=[.bool x]
@[go_sem] noncomputable def nPol (q:Ql)(x:Policy):List AV:=[.ts q 5 (x.terms.map (nTer q)),.bool x.accept]
@[go_sem] noncomputable def nLIn (q:Ql)(x:List Int):List AV:=[.ts q 1 (x.map nInt)]
@[go_sem] noncomputable def nAtt (q:Ql)(x:Attrs):List AV:=[.int .i64 x.origin,.ts q 1 (x.path.map nInt),.int .i64 x.next,.int .i64 x.med,.int .i64 x.pref,.ts q 1 (x.comms.map nInt)]
@[go_sem] noncomputable def nRou (q:Ql)(x:Route):List AV:=[.int .i64 x.prefix_.addr,.int .i64 x.prefix_.len,.int .i64 x.attrs.origin,.ts q 1 (x.attrs.path.map nInt),.int .i64 x.attrs.next,.int .i64 x.attrs.med,.int .i64 x.attrs.pref,.ts q 1 (x.attrs.comms.map nInt)]
theorem sq_encRoute (q q1:Ql)(x:Route):setQL q (nRou q1 x)=nRou q x:=by simp [nRou,sq_encInt,sq_encInt]
theorem sqm_encRoute (q q1:Ql)(xs:List Route):setQLL q (xs.map (nRou q1))=xs.map (nRou q):=by rw [setQLL_map];exact List.map_congr_left (fun x _=>sq_encRoute q q1 x)
theorem ow_encRoute (x:Route):ownOnlyL (nRou .own x)=true:=by simp [nRou,ownOnlyL,ownOnly,ownLL_map]
theorem owm_encRoute (xs:List Route):ownOnlyLL (xs.map (nRou .own))=true:=ownLL_map _ ow_encRoute xs
theorem fi_encRoute (x:Route):fine.fineL (nRou .own x)=true:=by simp [nRou,fine.fineL,fine,fineLL_map]
theorem fim_encRoute (xs:List Route):fine.fineLL (xs.map (nRou .own))=true:=fineLL_map _ fi_encRoute xs
theorem nu_encRoute (x:Route):nude.nudeL (nRou .own x)=true:=by simp [nRou,nude.nudeL,nude,nudeLL_map]
theorem num_encRoute (xs:List Route):nude.nudeLL (xs.map (nRou .own))=true:=nudeLL_map _ nu_encRoute xs
@[go_sem] theorem st_encRoute (q q1:Ql)(xs:List Route):(xs.map (nRou q1)).map (fun x=>x.map (setTop q))=xs.map (nRou q):=by rw [List.map_map];rfl
attribute [simp] sqm_encRoute ow_encRoute owm_encRoute fi_encRoute fim_encRoute nu_encRoute num_encRoute
attribute [go_sem] sqm_encRoute owm_encRoute fim_encRoute num_encRoute
@[go_sem] noncomputable def nLRo (q:Ql)(x:List Route):List AV:=[.ts q 8 (x.map (nRou q))]
noncomputable def nl6T (q:Ql)(x:l6T):List AV:=l6T.rec (motive_1:=fun _=>List AV) (motive_2:=fun _=>List (List AV)) (fun kind_ n_ kids_ h_kids_=>[AV.int .i64 kind_,AV.int .i64 n_,AV.ts q 3 h_kids_]) [] (fun _ _ h1 h2=>h1::h2) x
theorem encml6T (q:Ql)(xs:List l6T):l6T.rec_1 (motive_1:=fun _=>List AV) (motive_2:=fun _=>List (List AV)) (fun kind_ n_ kids_ h_kids_=>[AV.int .i64 kind_,AV.int .i64 n_,AV.ts q 3 h_kids_]) [] (fun _ _ h1 h2=>h1::h2) xs=xs.map (nl6T q):=by
 induction xs with
 | nil=>rfl
 | cons x r ih=>rw [List.map_cons,←ih];rfl
theorem encel6T (q:Ql)(kind_:Int)(n_:Int)(kids_:List l6T):nl6T q (.mk kind_ n_ kids_)=[AV.int .i64 kind_,AV.int .i64 n_,AV.ts q 3 (kids_.map (nl6T q))]:=by
 show [AV.int .i64 kind_,AV.int .i64 n_,AV.ts q 3 (l6T.rec_1 (motive_1:=fun _=>List AV) (motive_2:=fun _=>List (List AV)) (fun kind_ n_ kids_ h_kids_=>[AV.int .i64 kind_,AV.int .i64 n_,AV.ts q 3 h_kids_]) [] (fun _ _ h1 h2=>h1::h2) kids_)]=_
 rw [encml6T]
theorem encxl6T (q:Ql)(x:l6T):nl6T q x=[AV.int .i64 x.kind_,AV.int .i64 x.n_,AV.ts q 3 (x.kids_.map (nl6T q))]:=by cases x;exact encel6T q _ _ _
theorem l6T.kind__mk (kind_:Int)(n_:Int)(kids_:List l6T):(l6T.mk kind_ n_ kids_).kind_=kind_:=rfl
theorem l6T.n__mk (kind_:Int)(n_:Int)(kids_:List l6T):(l6T.mk kind_ n_ kids_).n_=n_:=rfl
theorem l6T.kids__mk (kind_:Int)(n_:Int)(kids_:List l6T):(l6T.mk kind_ n_ kids_).kids_=kids_:=rfl
attribute [go_sem] encxl6T l6T.kind__mk l6T.n__mk l6T.kids__mk
theorem sq_encl6T':∀x:l6T,∀q q1:Ql,setQL q (nl6T q1 x)=nl6T q x:=by
 intro x
 refine l6T.rec (motive_1:=fun x=>∀q q1:Ql,setQL q (nl6T q1 x)=nl6T q x) (motive_2:=fun x=>∀q q1:Ql,setQLL q (x.map (nl6T q1))=x.map (nl6T q)) ?_ ?_ ?_ x
 · intro kind_ n_ kids_ h_kids_;intro q q1;rw [encel6T,encel6T];simp [h_kids_]
 · intro q q1;rfl
 · intro x r h1 h2;intro q q1;rw [List.map_cons,List.map_cons,gll_cons,h1,h2]
theorem sq_encl6T (q q1:Ql)(x:l6T):setQL q (nl6T q1 x)=nl6T q x:=sq_encl6T' x q q1
theorem sqm_encl6T (q q1:Ql)(xs:List l6T):setQLL q (xs.map (nl6T q1))=xs.map (nl6T q):=by rw [setQLL_map];exact List.map_congr_left (fun x _=>sq_encl6T q q1 x)
theorem ow_encl6T:∀x:l6T,ownOnlyL (nl6T .own x)=true:=by
 intro x
 refine l6T.rec (motive_1:=fun x=>ownOnlyL (nl6T .own x)=true) (motive_2:=fun x=>ownOnlyLL (x.map (nl6T .own))=true) ?_ ?_ ?_ x
 · intro kind_ n_ kids_ h_kids_;rw [encel6T];simp [ownOnlyL,ownOnly,h_kids_]
 · rfl
 · intro x r h1 h2;rw [List.map_cons];simp [ownOnlyLL,h1,h2]
theorem owm_encl6T (xs:List l6T):ownOnlyLL (xs.map (nl6T .own))=true:=ownLL_map _ ow_encl6T xs
attribute [simp] sqm_encl6T ow_encl6T owm_encl6T
attribute [go_sem] sqm_encl6T owm_encl6T
@[go_sem] noncomputable def nLl6 (q:Ql)(x:List l6T):List AV:=[.ts q 3 (x.map (nl6T q))]
noncomputable def npat (q:Ql)(x:pattern):List AV:=pattern.rec (motive_1:=fun _=>List AV) (motive_2:=fun _=>List (List AV)) (fun cell parts h_parts=>[AV.int .i64 cell.kind,AV.int .i64 cell.n,AV.ts q 1 h_parts]) [] (fun _ _ h1 h2=>[AV.tp q 3 [h1] 0 0]::h2) x
noncomputable def nPpa (q:Ql)(x:pattern):List AV:=[.tp q 3 [npat q x] 0 0]
theorem encmpattern (q:Ql)(xs:List pattern):pattern.rec_1 (motive_1:=fun _=>List AV) (motive_2:=fun _=>List (List AV)) (fun cell parts h_parts=>[AV.int .i64 cell.kind,AV.int .i64 cell.n,AV.ts q 1 h_parts]) [] (fun _ _ h1 h2=>[AV.tp q 3 [h1] 0 0]::h2) xs=xs.map (nPpa q):=by
 induction xs with
 | nil=>rfl
 | cons x r ih=>rw [List.map_cons,←ih];rfl
theorem encxpattern (q:Ql)(x:pattern):npat q x=[AV.int .i64 x.cell.kind,AV.int .i64 x.cell.n,AV.ts q 1 (x.parts.map (nPpa q))]:=by
 cases x with
 | mk cell parts=>show [AV.int .i64 cell.kind,AV.int .i64 cell.n,AV.ts q 1 (pattern.rec_1 (motive_1:=fun _=>List AV) (motive_2:=fun _=>List (List AV)) (fun cell parts h_parts=>[AV.int .i64 cell.kind,AV.int .i64 cell.n,AV.ts q 1 h_parts]) [] (fun _ _ h1 h2=>[AV.tp q 3 [h1] 0 0]::h2) parts)]=_;rw [encmpattern];rfl
theorem pattern.cell_mk (cell:ReCell)(parts:List pattern):(pattern.mk cell parts).cell=cell:=rfl
theorem pattern.parts_mk (cell:ReCell)(parts:List pattern):(pattern.mk cell parts).parts=parts:=rfl
attribute [go_sem] encxpattern pattern.cell_mk pattern.parts_mk
theorem sq_encpattern':∀x:pattern,∀q q1:Ql,setQL q (npat q1 x)=npat q x:=by
 intro x
 refine pattern.rec (motive_1:=fun x=>∀q q1:Ql,setQL q (npat q1 x)=npat q x) (motive_2:=fun xs=>∀q q1:Ql,setQLL q (xs.map (nPpa q1))=xs.map (nPpa q)) ?_ ?_ ?_ x
 · intro cell parts h_parts q q1;rw [encxpattern,encxpattern];simp [h_parts,pattern.cell_mk,pattern.parts_mk]
 · intro q q1;rfl
 · intro x r h1 h2 q q1;rw [List.map_cons,List.map_cons,gll_cons,h2];congr 1;simp only [nPpa];rw [setQL_cons,setQ_tp',gll_cons,h1];rfl
@[go_sem] theorem sq_encpattern (q q1:Ql)(x:pattern):setQL q (npat q1 x)=npat q x:=sq_encpattern' x q q1
attribute [go_sem] nPpa
theorem sq_encPpattern (q q1:Ql)(x:pattern):setQL q (nPpa q1 x)=nPpa q x:=by simp only [nPpa];rw [setQL_cons,setQ_tp',gll_cons,sq_encpattern];rfl
theorem sqm_encPpattern (q q1:Ql)(xs:List pattern):setQLL q (xs.map (nPpa q1))=xs.map (nPpa q):=by rw [setQLL_map];exact List.map_congr_left (fun x _=>sq_encPpattern q q1 x)
theorem fii_encPpattern (xs:List pattern):fine.fineLL (xs.map (nPpa .imm))=true:=fineLL_map _ (fun x=>by simp [nPpa,fine.fineL,fine]) xs
attribute [simp] sqm_encPpattern
attribute [go_sem] sqm_encPpattern fii_encPpattern
@[go_sem] noncomputable def nLPp (q:Ql)(x:List pattern):List AV:=[.ts q 1 (x.map (nPpa q))]
@[go_sem] theorem call69:CL 69 [[4],[0]]:=evCall0 fn69 rfl rfl rfl
theorem e69 (a0:List Range)(a1:Int)(r:Int)(h:m69 a0 a1=some r):evFL T 69 [.ts .imm 4 (a0.map nRan),nI a1] []=some (nI r,[]):=by
 unfold m69 at h;rw [ev fn69 rfl]
 rcases brx h with ⟨b1,h⟩|⟨b1,h⟩
 all_goals cases h;simp -implicitDefEqProofs only [go_sem,i69,c69,b1]
@[go_sem] theorem call70:CL 70 [[2],[0]]:=evCall0 fn70 rfl rfl rfl
theorem e70 (a0:List ReCell)(a1:Int)(r:Int)(h:m70 a0 a1=some r):evFL T 70 [.ts .imm 2 (a0.map nReC),nI a1] []=some (nI r,[]):=by
 unfold m70 at h;rw [ev fn70 rfl]
 rcases brx h with ⟨b1,h⟩|⟨b1,h⟩
 all_goals cases h;simp -implicitDefEqProofs only [go_sem,i70,c70,b1]
@[go_sem] theorem call71:CL 71 [[2],[0]]:=evCall0 fn71 rfl rfl rfl
theorem e71 (a0:List Acn)(a1:Int)(r:Int)(h:m71 a0 a1=some r):evFL T 71 [.ts .imm 2 (a0.map nAcn),nI a1] []=some (nI r,[]):=by
 unfold m71 at h;rw [ev fn71 rfl]
 rcases brx h with ⟨b1,h⟩|⟨b1,h⟩
 all_goals cases h;simp -implicitDefEqProofs only [go_sem,i71,c71,b1]
@[go_sem] theorem call45:CL 45 [[4,2,0,2,0],[0]]:=evCall0 fn45 rfl rfl rfl
theorem e45 (a0:Term)(a1:Int)(r:Int)(h:m45 a0 a1=some r):evFL T 45 [.agg (nTer .imm a0),nI a1] []=some (nI r,[]):=by
 unfold m45 at h;rw [ev fn45 rfl];obtain ⟨r3,w2,h⟩:=bcall (e69 a0.ranges a1) h;try simp -implicitDefEqProofs only [go_sem] at w2
 rcases brx h with ⟨b4,h⟩|⟨b4,h⟩
 obtain ⟨r7,w6,h⟩:=bcall (e70 a0.path r3) h;try simp -implicitDefEqProofs only [go_sem] at w6
 rcases brx h with ⟨b8,h⟩|⟨b8,h⟩
 obtain ⟨r11,w10,h⟩:=bcall (e71 a0.acts r7) h;try simp -implicitDefEqProofs only [go_sem] at w10
 rcases brx h with ⟨b12,h⟩|⟨b12,h⟩
 all_goals cases h;simp -implicitDefEqProofs only [go_sem,i45,c45, *]
@[go_sem] theorem call23:CL 23 [[5],[0]]:=evCall0 fn23 rfl rfl rfl
@[go_sem] noncomputable def X23_1 (o:(Int ⊕ Unit)):Ex×Fr×St :=
 match o with
 | .inl o=>(.exit 0,frOf 27 (upd anyF 1 (nI o)),[])
 | .inr o=>(.ret,frOf 27 (upd anyF 4 (nI (-1))),[])
@[go_sem] noncomputable def E23_1 (a0:List Term)(s:(Int×Int)):Fr×St:=(frOf 27 (upd (upd (upd anyF 0 (.ts .imm 5 (a0.map (nTer .imm)))) 1 (nI s.1)) 5 (nI s.2)),[])
theorem e23_1 (a0:List Term):LW T 0 k23_1b (m23_1b a0) (E23_1 a0) X23_1:=by
 refine lwk (by rintro (b | b)<;>nofun) fun s o h=>?_
 unfold m23_1b at h;obtain ⟨s13,s14⟩:=s;replace h:=sel2_some h
 rcases brx h with ⟨b15,h⟩|⟨b15,h⟩
 rotate_left
 obtain ⟨x16,g18,g19,g20,h⟩:=bidx (nTer .imm) h;obtain ⟨r23,w22,h⟩:=bcall (e45 x16 s13) h;try simp -implicitDefEqProofs only [go_sem] at g19 g20 w22
 rcases brx h with ⟨b24,h⟩|⟨b24,h⟩
 all_goals cases h;simp -implicitDefEqProofs only [go_sem,k23_1b, *]
theorem e23 (a0:List Term)(a1:Int)(r:Int)(h:m23 a0 a1=some r):evFL T 23 [.ts .imm 5 (a0.map (nTer .imm)),nI a1] []=some (nI r,[]):=by
 unfold m23 at h;rw [ev fn23 rfl]
 rcases brx h with ⟨b1,h⟩|⟨b1,h⟩
 (try simp -implicitDefEqProofs only [go_sem,i23,c23,b1]);obtain ⟨o,w26,h⟩:=bcall (e23_1 a0 (wsub .i64 a1 (↑a0.length:Int),0)) h
 rcases o with v27|⟨⟩
 replace h:=selS_l h;try simp -implicitDefEqProofs only [go_sem] at w26
 rotate_left
 replace h:=selS_r h;try simp -implicitDefEqProofs only [go_sem] at w26
 all_goals cases h;simp -implicitDefEqProofs only [go_sem,i23,c23, *]
@[go_sem] theorem calls5 (args:List AV)(S:St):evCall (T.at true) (evFL T) 5 args S=lendC (evFL T 5) S (lendAll S [[5,0],[0]] args):=evCall0 fns5 rfl rfl rfl args S
theorem e5 (a0:Policy)(a1:Int)(r:Int)(h:m5 a0 a1=some r):evFL T 5 [.agg (nPol .imm a0),nI a1] []=some (nI r,[]):=by
 unfold m5 at h;rw [ev fn5 rfl];obtain ⟨r3,w2,h⟩:=bcall (e23 a0.terms a1) h;try simp -implicitDefEqProofs only [go_sem] at w2
 rcases brx h with ⟨b4,h⟩|⟨b4,h⟩
 all_goals cases h;simp -implicitDefEqProofs only [go_sem,i5,c5,w2,b4]
@[go_sem] theorem call46:CL 46 [[1],[0]]:=evCall0 fn46 rfl rfl rfl
theorem e46 (a0:List Int)(a1:Int)(r:Int)(h:m46 a0 a1=some r):evFL T 46 [.ts .imm 1 (a0.map nInt),nI a1] []=some (nI r,[]):=by
 unfold m46 at h;rw [ev fn46 rfl]
 rcases brx h with ⟨b1,h⟩|⟨b1,h⟩
 all_goals cases h;simp -implicitDefEqProofs only [go_sem,i46,c46,b1]
@[go_sem] theorem call24:CL 24 [[0,1,0,0,0,1],[0]]:=evCall0 fn24 rfl rfl rfl
theorem e24 (a0:Attrs)(a1:Int)(r:Int)(h:m24 a0 a1=some r):evFL T 24 [.agg (nAtt .imm a0),nI a1] []=some (nI r,[]):=by
 unfold m24 at h;rw [ev fn24 rfl];obtain ⟨r3,w2,h⟩:=bcall (e46 a0.path a1) h;try simp -implicitDefEqProofs only [go_sem] at w2
 rcases brx h with ⟨b4,h⟩|⟨b4,h⟩
 obtain ⟨r7,w6,h⟩:=bcall (e46 a0.comms r3) h;try simp -implicitDefEqProofs only [go_sem] at w6
 rcases brx h with ⟨b8,h⟩|⟨b8,h⟩
 all_goals cases h;simp -implicitDefEqProofs only [go_sem,i24,c24, *]
@[go_sem] theorem call6:CL 6 [[0,0,0,1,0,0,0,1],[0]]:=evCall0 fn6 rfl rfl rfl
theorem e6 (a0:Route)(a1:Int)(r:Int)(h:m6 a0 a1=some r):evFL T 6 [.agg (nRou .imm a0),nI a1] []=some (nI r,[]):=by
 unfold m6 at h;rw [ev fn6 rfl];obtain ⟨r3,w2,h⟩:=bcall (e24 a0.attrs a1) h;try simp -implicitDefEqProofs only [go_sem] at w2
 rcases brx h with ⟨b4,h⟩|⟨b4,h⟩
 all_goals cases h;simp -implicitDefEqProofs only [go_sem,i6,c6,w2,b4]
@[go_sem] theorem calls16 (args:List AV)(S:St):evCall (T.at true) (evFL T) 16 args S=lendC (evFL T 16) S (lendAll S [[8],[0]] args):=evCall0 fns16 rfl rfl rfl args S
@[go_sem] noncomputable def X16_1 (o:(Int ⊕ Unit)):Ex×Fr×St :=
 match o with
 | .inl o=>(.exit 0,frOf 27 (upd anyF 1 (nI o)),[])
 | .inr o=>(.ret,frOf 27 (upd anyF 4 (nI (-1))),[])
@[go_sem] noncomputable def E16_1 (a0:List Route)(s:(Int×Int)):Fr×St:=(frOf 27 (upd (upd (upd anyF 0 (.ts .imm 8 (a0.map (nRou .imm)))) 1 (nI s.1)) 5 (nI s.2)),[])
theorem e16_1 (a0:List Route):LW T 0 k16_1b (m16_1b a0) (E16_1 a0) X16_1:=by
 refine lwk (by rintro (b | b)<;>nofun) fun s o h=>?_
 unfold m16_1b at h;obtain ⟨s13,s14⟩:=s;replace h:=sel2_some h
 rcases brx h with ⟨b15,h⟩|⟨b15,h⟩
 rotate_left
 obtain ⟨x16,g18,g19,g20,h⟩:=bidx (nRou .imm) h;obtain ⟨r23,w22,h⟩:=bcall (e6 x16 s13) h;try simp -implicitDefEqProofs only [go_sem] at g19 g20 w22
 rcases brx h with ⟨b24,h⟩|⟨b24,h⟩
 all_goals cases h;simp -implicitDefEqProofs only [go_sem,k16_1b, *]
theorem e16 (a0:List Route)(a1:Int)(r:Int)(h:m16 a0 a1=some r):evFL T 16 [.ts .imm 8 (a0.map (nRou .imm)),nI a1] []=some (nI r,[]):=by
 unfold m16 at h;rw [ev fn16 rfl]
 rcases brx h with ⟨b1,h⟩|⟨b1,h⟩
 (try simp -implicitDefEqProofs only [go_sem,i16,c16,b1]);obtain ⟨o,w26,h⟩:=bcall (e16_1 a0 (wsub .i64 a1 (↑a0.length:Int),0)) h
 rcases o with v27|⟨⟩
 replace h:=selS_l h;try simp -implicitDefEqProofs only [go_sem] at w26
 rotate_left
 replace h:=selS_r h;try simp -implicitDefEqProofs only [go_sem] at w26
 all_goals cases h;simp -implicitDefEqProofs only [go_sem,i16,c16, *]
@[go_sem] theorem call30:CL 30 [[0,0]]:=evCall0 fn30 rfl rfl rfl
theorem e30 (a0:Prefix)(r:Prefix)(h:m30 a0=some r):evFL T 30 [.agg (nPre a0)] []=some (.agg (nPre r),[]):=by
 unfold m30 at h;rw [ev fn30 rfl];cases h;simp -implicitDefEqProofs only [go_sem,i30,c30]
@[go_sem] theorem call113:CL 113 [[0,0,0,0]]:=evCall0 fn113 rfl rfl rfl
theorem e113 (a0:Range)(r:Range)(h:m113 a0=some r):evFL T 113 [.agg (nRan a0)] []=some (.agg (nRan r),[]):=by
 unfold m113 at h;rw [ev fn113 rfl];obtain ⟨r3,w2,h⟩:=bcall (e30 a0.prefix_) h;(try simp -implicitDefEqProofs only [go_sem] at w2);cases h;simp -implicitDefEqProofs only [go_sem,i113,c113,w2]
@[go_sem] theorem call81:CL 81 [[4]]:=evCall0 fn81 rfl rfl rfl
@[go_sem] noncomputable def X81_1 (o:List Range):Ex×Fr×St :=
 (.exit 0,frOf 23 (upd anyF 3 (.sl 0 0 o.length)),[some ⟨.arr,4,o.map nRan⟩])
@[go_sem] noncomputable def E81_1 (a0:List Range)(s:(Int×List Range)):Fr×St:=(frOf 23 (upd (upd (upd anyF 0 (.ts .imm 4 (a0.map nRan))) 3 (.sl 0 0 s.2.length)) 4 (nI s.1)),[some ⟨.arr,4,s.2.map nRan⟩])
theorem e81_1 (a0:List Range):LW T 0 k81_1b (m81_1b a0) (E81_1 a0) X81_1:=by
 refine lwk nofun fun s o h=>?_
 unfold m81_1b at h;obtain ⟨s17,s18⟩:=s;replace h:=sel2_some h
 rcases brx h with ⟨b19,h⟩|⟨b19,h⟩
 rotate_left
 obtain ⟨x20,g22,g23,g24,h⟩:=bidx nRan h;obtain ⟨r27,w26,h⟩:=bcall (e113 x20) h;obtain ⟨x28,g30,g31,g32,h⟩:=bidx nRan h;try simp -implicitDefEqProofs only [go_sem] at g23 g24 w26 g31 g32
 all_goals cases h;simp -implicitDefEqProofs only [go_sem,k81_1b, *]
theorem e81 (a0:List Range)(r:List Range)(h:m81 a0=some r):evFL T 81 [.ts .imm 4 (a0.map nRan)] []=some (.sl 0 0 r.length,[some ⟨.arr,4,r.map nRan⟩]):=by
 unfold m81 at h;rw [ev fn81 rfl];obtain ⟨g1,h⟩:=ck_some h;obtain ⟨v35,w34,h⟩:=bcall (e81_1 a0 (0,List.replicate a0.length (⟨(⟨0,0⟩:Prefix),0,0⟩:Range))) h;(try simp -implicitDefEqProofs only [go_sem] at g1);(try simp -implicitDefEqProofs only [go_sem] at w34);cases h;simp -implicitDefEqProofs only [go_sem,i81,c81,g1,w34]
@[go_sem] theorem call114:CL 114 [[0,0]]:=evCall0 fn114 rfl rfl rfl
theorem e114 (a0:ReCell)(r:ReCell)(h:m114 a0=some r):evFL T 114 [.agg [nI a0.kind,nI a0.n]] []=some (.agg [nI r.kind,nI r.n],[]):=by
 unfold m114 at h;rw [ev fn114 rfl];cases h;simp -implicitDefEqProofs only [go_sem,i114,c114]
@[go_sem] theorem call82:CL 82 [[2]]:=evCall0 fn82 rfl rfl rfl
@[go_sem] noncomputable def X82_1 (o:List ReCell):Ex×Fr×St :=
 (.exit 0,frOf 23 (upd anyF 3 (.sl 0 0 o.length)),[some ⟨.arr,2,o.map nReC⟩])
@[go_sem] noncomputable def E82_1 (a0:List ReCell)(s:(Int×List ReCell)):Fr×St:=(frOf 23 (upd (upd (upd anyF 0 (.ts .imm 2 (a0.map nReC))) 3 (.sl 0 0 s.2.length)) 4 (nI s.1)),[some ⟨.arr,2,s.2.map nReC⟩])
theorem e82_1 (a0:List ReCell):LW T 0 k82_1b (m82_1b a0) (E82_1 a0) X82_1:=by
 refine lwk nofun fun s o h=>?_
 unfold m82_1b at h;obtain ⟨s17,s18⟩:=s;replace h:=sel2_some h
 rcases brx h with ⟨b19,h⟩|⟨b19,h⟩
 rotate_left
 obtain ⟨x20,g22,g23,g24,h⟩:=bidx nReC h;obtain ⟨r27,w26,h⟩:=bcall (e114 x20) h;obtain ⟨x28,g30,g31,g32,h⟩:=bidx nReC h;try simp -implicitDefEqProofs only [go_sem] at g23 g24 w26 g31 g32
 all_goals cases h;simp -implicitDefEqProofs only [go_sem,k82_1b, *]
theorem e82 (a0:List ReCell)(r:List ReCell)(h:m82 a0=some r):evFL T 82 [.ts .imm 2 (a0.map nReC)] []=some (.sl 0 0 r.length,[some ⟨.arr,2,r.map nReC⟩]):=by
 unfold m82 at h;rw [ev fn82 rfl];obtain ⟨g1,h⟩:=ck_some h;obtain ⟨v35,w34,h⟩:=bcall (e82_1 a0 (0,List.replicate a0.length (⟨0,0⟩:ReCell))) h;(try simp -implicitDefEqProofs only [go_sem] at g1);(try simp -implicitDefEqProofs only [go_sem] at w34);cases h;simp -implicitDefEqProofs only [go_sem,i82,c82,g1,w34]
@[go_sem] theorem call115:CL 115 [[0,0]]:=evCall0 fn115 rfl rfl rfl
theorem e115 (a0:Acn)(r:Acn)(h:m115 a0=some r):evFL T 115 [.agg [nI a0.kind,nI a0.n]] []=some (.agg [nI r.kind,nI r.n],[]):=by
 unfold m115 at h;rw [ev fn115 rfl];cases h;simp -implicitDefEqProofs only [go_sem,i115,c115]
@[go_sem] theorem call83:CL 83 [[2]]:=evCall0 fn83 rfl rfl rfl
@[go_sem] noncomputable def X83_1 (o:List Acn):Ex×Fr×St :=
 (.exit 0,frOf 23 (upd anyF 3 (.sl 0 0 o.length)),[some ⟨.arr,2,o.map nAcn⟩])
@[go_sem] noncomputable def E83_1 (a0:List Acn)(s:(Int×List Acn)):Fr×St:=(frOf 23 (upd (upd (upd anyF 0 (.ts .imm 2 (a0.map nAcn))) 3 (.sl 0 0 s.2.length)) 4 (nI s.1)),[some ⟨.arr,2,s.2.map nAcn⟩])
theorem e83_1 (a0:List Acn):LW T 0 k83_1b (m83_1b a0) (E83_1 a0) X83_1:=by
 refine lwk nofun fun s o h=>?_
 unfold m83_1b at h;obtain ⟨s17,s18⟩:=s;replace h:=sel2_some h
 rcases brx h with ⟨b19,h⟩|⟨b19,h⟩
 rotate_left
 obtain ⟨x20,g22,g23,g24,h⟩:=bidx nAcn h;obtain ⟨r27,w26,h⟩:=bcall (e115 x20) h;obtain ⟨x28,g30,g31,g32,h⟩:=bidx nAcn h;try simp -implicitDefEqProofs only [go_sem] at g23 g24 w26 g31 g32
 all_goals cases h;simp -implicitDefEqProofs only [go_sem,k83_1b, *]
theorem e83 (a0:List Acn)(r:List Acn)(h:m83 a0=some r):evFL T 83 [.ts .imm 2 (a0.map nAcn)] []=some (.sl 0 0 r.length,[some ⟨.arr,2,r.map nAcn⟩]):=by
 unfold m83 at h;rw [ev fn83 rfl];obtain ⟨g1,h⟩:=ck_some h;obtain ⟨v35,w34,h⟩:=bcall (e83_1 a0 (0,List.replicate a0.length (⟨0,0⟩:Acn))) h;(try simp -implicitDefEqProofs only [go_sem] at g1);(try simp -implicitDefEqProofs only [go_sem] at w34);cases h;simp -implicitDefEqProofs only [go_sem,i83,c83,g1,w34]
@[go_sem] theorem call53:CL 53 [[4,2,0,2,0]]:=evCall0 fn53 rfl rfl rfl
theorem e53 (a0:Term)(r:Term)(h:m53 a0=some r):evFL T 53 [.agg (nTer .imm a0)] []=some (.agg [.sl 0 0 r.ranges.length,.sl 1 0 r.path.length,nI r.comm,.sl 2 0 r.acts.length,nI r.verdict],[some ⟨.arr,4,r.ranges.map nRan⟩,some ⟨.arr,2,r.path.map nReC⟩,some ⟨.arr,2,r.acts.map nAcn⟩]):=by
 unfold m53 at h;rw [ev fn53 rfl];obtain ⟨r3,w2,h⟩:=bcall (e81 a0.ranges) h;obtain ⟨r6,w5,h⟩:=bcall (e82 a0.path) h;obtain ⟨r9,w8,h⟩:=bcall (e83 a0.acts) h;(try simp -implicitDefEqProofs only [go_sem] at w2 w5 w8);cases h;simp -implicitDefEqProofs only [go_sem,i53,c53,w2,w5,w8]
@[go_sem] theorem call29:CL 29 [[5]]:=evCall0 fn29 rfl rfl rfl
@[go_sem] noncomputable def X29_1 (o:List Term):Ex×Fr×St :=
 (.exit 0,frOf 23 (upd anyF 3 (.sl 0 0 o.length)),[some ⟨.arr,5,o.map (nTer .own)⟩])
@[go_sem] noncomputable def E29_1 (a0:List Term)(s:(Int×List Term)):Fr×St:=(frOf 23 (upd (upd (upd anyF 0 (.ts .imm 5 (a0.map (nTer .imm)))) 3 (.sl 0 0 s.2.length)) 4 (nI s.1)),[some ⟨.arr,5,s.2.map (nTer .own)⟩])
theorem e29_1 (a0:List Term):LW T 0 k29_1b (m29_1b a0) (E29_1 a0) X29_1:=by
 refine lwk nofun fun s o h=>?_
 unfold m29_1b at h;obtain ⟨s17,s18⟩:=s;replace h:=sel2_some h
 rcases brx h with ⟨b19,h⟩|⟨b19,h⟩
 rotate_left
 obtain ⟨x20,g22,g23,g24,h⟩:=bidx (nTer .imm) h;obtain ⟨r27,w26,h⟩:=bcall (e53 x20) h;obtain ⟨x28,g30,g31,g32,h⟩:=bidx (nTer .own) h;try simp -implicitDefEqProofs only [go_sem] at g23 g24 w26 g31 g32
 all_goals cases h;simp -implicitDefEqProofs only [go_sem,k29_1b, *]
theorem e29 (a0:List Term)(r:List Term)(h:m29 a0=some r):evFL T 29 [.ts .imm 5 (a0.map (nTer .imm))] []=some (.sl 0 0 r.length,[some ⟨.arr,5,r.map (nTer .own)⟩]):=by
 unfold m29 at h;rw [ev fn29 rfl];obtain ⟨g1,h⟩:=ck_some h;obtain ⟨v35,w34,h⟩:=bcall (e29_1 a0 (0,List.replicate a0.length (⟨[],[],0,[],0⟩:Term))) h;(try simp -implicitDefEqProofs only [go_sem] at g1);(try simp -implicitDefEqProofs only [go_sem] at w34);cases h;simp -implicitDefEqProofs only [go_sem,i29,c29,g1,w34]
theorem calls8 (args:List AV)(S:St):evCall (T.at true) (evFL T) 8 args S=lendC (evFL T 8) S (lendAll S [[5,0]] args):=evCall0 fns8 rfl rfl rfl args S
theorem callsz8 (args:List AV)(S:St):evCallFz (T.at true) (evFL T) 8 args S=lendZ (evFL T 8) S [[5,0]] (lendAll S [[5,0]] args):=evCallFz0 fns8 rfl rfl rfl args S
attribute [go_sem] calls8 callsz8
theorem e8 (a0:Policy)(r:Policy)(h:m8 a0=some r):evFL T 8 [.agg (nPol .imm a0)] []=some (.agg [.sl 0 0 r.terms.length,.bool r.accept],[some ⟨.arr,5,r.terms.map (nTer .own)⟩]):=by
 unfold m8 at h;rw [ev fn8 rfl];obtain ⟨r3,w2,h⟩:=bcall (e29 a0.terms) h;(try simp -implicitDefEqProofs only [go_sem] at w2);cases h;simp -implicitDefEqProofs only [go_sem,i8,c8,w2]
@[go_sem] theorem call54:CL 54 [[1]]:=evCall0 fn54 rfl rfl rfl
@[go_sem] noncomputable def X54_1 (o:List Int):Ex×Fr×St :=
 (.exit 0,frOf 22 (upd anyF 3 (.sl 0 0 o.length)),[some ⟨.arr,1,o.map nInt⟩])
@[go_sem] noncomputable def E54_1 (a0:List Int)(s:(Int×List Int)):Fr×St:=(frOf 22 (upd (upd (upd anyF 0 (.ts .imm 1 (a0.map nInt))) 3 (.sl 0 0 s.2.length)) 4 (nI s.1)),[some ⟨.arr,1,s.2.map nInt⟩])
theorem e54_1 (a0:List Int):LW T 0 k54_1b (m54_1b a0) (E54_1 a0) X54_1:=by
 refine lwk nofun fun s o h=>?_
 unfold m54_1b at h;obtain ⟨s14,s15⟩:=s;replace h:=sel2_some h
 rcases brx h with ⟨b16,h⟩|⟨b16,h⟩
 rotate_left
 obtain ⟨x17,g19,g20,g21,h⟩:=bidx nInt h;obtain ⟨x22,g24,g25,g26,h⟩:=bidx nInt h;try simp -implicitDefEqProofs only [go_sem] at g20 g21 g25 g26
 all_goals cases h;simp -implicitDefEqProofs only [go_sem,k54_1b, *]
theorem e54 (a0:List Int)(r:List Int)(h:m54 a0=some r):evFL T 54 [.ts .imm 1 (a0.map nInt)] []=some (.sl 0 0 r.length,[some ⟨.arr,1,r.map nInt⟩]):=by
 unfold m54 at h;rw [ev fn54 rfl];obtain ⟨g1,h⟩:=ck_some h;obtain ⟨v29,w28,h⟩:=bcall (e54_1 a0 (0,List.replicate a0.length 0)) h;(try simp -implicitDefEqProofs only [go_sem] at g1);(try simp -implicitDefEqProofs only [go_sem] at w28);cases h;simp -implicitDefEqProofs only [go_sem,i54,c54,g1,w28]
@[go_sem] theorem call31:CL 31 [[0,1,0,0,0,1]]:=evCall0 fn31 rfl rfl rfl
theorem e31 (a0:Attrs)(r:Attrs)(h:m31 a0=some r):evFL T 31 [.agg (nAtt .imm a0)] []=some (.agg [nI r.origin,.sl 0 0 r.path.length,nI r.next,nI r.med,nI r.pref,.sl 1 0 r.comms.length],[some ⟨.arr,1,r.path.map nInt⟩,some ⟨.arr,1,r.comms.map nInt⟩]):=by
 unfold m31 at h;rw [ev fn31 rfl];obtain ⟨r3,w2,h⟩:=bcall (e54 a0.path) h;obtain ⟨r6,w5,h⟩:=bcall (e54 a0.comms) h;(try simp -implicitDefEqProofs only [go_sem] at w2 w5);cases h;simp -implicitDefEqProofs only [go_sem,i31,c31,w2,w5]
@[go_sem] theorem call9:CL 9 [[0,0,0,1,0,0,0,1]]:=evCall0 fn9 rfl rfl rfl
theorem e9 (a0:Route)(r:Route)(h:m9 a0=some r):evFL T 9 [.agg (nRou .imm a0)] []=some (.agg [nI r.prefix_.addr,nI r.prefix_.len,nI r.attrs.origin,.sl 0 0 r.attrs.path.length,nI r.attrs.next,nI r.attrs.med,nI r.attrs.pref,.sl 1 0 r.attrs.comms.length],[some ⟨.arr,1,r.attrs.path.map nInt⟩,some ⟨.arr,1,r.attrs.comms.map nInt⟩]):=by
 unfold m9 at h;rw [ev fn9 rfl];obtain ⟨r3,w2,h⟩:=bcall (e30 a0.prefix_) h;obtain ⟨r6,w5,h⟩:=bcall (e31 a0.attrs) h;(try simp -implicitDefEqProofs only [go_sem] at w2 w5);cases h;simp -implicitDefEqProofs only [go_sem,i9,c9,w2,w5]
@[go_sem] theorem calls18 (args:List AV)(S:St):evCall (T.at true) (evFL T) 18 args S=lendC (evFL T 18) S (lendAll S [[8]] args):=evCall0 fns18 rfl rfl rfl args S
@[go_sem] noncomputable def X18_1 (o:List Route):Ex×Fr×St :=
 (.exit 0,frOf 23 (upd anyF 3 (.sl 0 0 o.length)),[some ⟨.arr,8,o.map (nRou .own)⟩])
@[go_sem] noncomputable def E18_1 (a0:List Route)(s:(Int×List Route)):Fr×St:=(frOf 23 (upd (upd (upd anyF 0 (.ts .imm 8 (a0.map (nRou .imm)))) 3 (.sl 0 0 s.2.length)) 4 (nI s.1)),[some ⟨.arr,8,s.2.map (nRou .own)⟩])
theorem e18_1 (a0:List Route):LW T 0 k18_1b (m18_1b a0) (E18_1 a0) X18_1:=by
 refine lwk nofun fun s o h=>?_
 unfold m18_1b at h;obtain ⟨s17,s18⟩:=s;replace h:=sel2_some h
 rcases brx h with ⟨b19,h⟩|⟨b19,h⟩
 rotate_left
 obtain ⟨x20,g22,g23,g24,h⟩:=bidx (nRou .imm) h;obtain ⟨r27,w26,h⟩:=bcall (e9 x20) h;obtain ⟨x28,g30,g31,g32,h⟩:=bidx (nRou .own) h;try simp -implicitDefEqProofs only [go_sem] at g23 g24 w26 g31 g32
 all_goals cases h;simp -implicitDefEqProofs only [go_sem,k18_1b, *]
theorem e18 (a0:List Route)(r:List Route)(h:m18 a0=some r):evFL T 18 [.ts .imm 8 (a0.map (nRou .imm))] []=some (.sl 0 0 r.length,[some ⟨.arr,8,r.map (nRou .own)⟩]):=by
 unfold m18 at h;rw [ev fn18 rfl];obtain ⟨g1,h⟩:=ck_some h;obtain ⟨v35,w34,h⟩:=bcall (e18_1 a0 (0,List.replicate a0.length (⟨(⟨0,0⟩:Prefix),(⟨0,[],0,0,0,[]⟩:Attrs)⟩:Route))) h;(try simp -implicitDefEqProofs only [go_sem] at g1);(try simp -implicitDefEqProofs only [go_sem] at w34);cases h;simp -implicitDefEqProofs only [go_sem,i18,c18,g1,w34]
theorem call72:CL 72 [[0],[0],[0]]:=evCall0 fn72 rfl rfl rfl
theorem callz72:CZ 72 [[0]] [[0],[0],[0]]:=evCallFz0 fn72 rfl rfl rfl
attribute [go_sem] call72 callz72
theorem e72_1 (a0:Int)(a1:Int)(a2:Int)(o:Bool)(h:m72_1 a0 a1 a2=some o):evCL T 0 k72_1 (frOf 15 (upd (upd (upd anyF 0 (nI a0)) 1 (nI a1)) 2 (nI a2))) []=some (.normal,frOf 15 (upd anyF 6 (.bool o)),[]):=by
 unfold m72_1 at h
 rcases brx h with ⟨b1,h⟩|⟨b1,h⟩
 all_goals cases h;simp -implicitDefEqProofs only [go_sem,k72_1,b1]
theorem e72 (a0:Int)(a1:Int)(a2:Int)(r:Bool)(h:m72 a0 a1 a2=some r):evFL T 72 [nI a0,nI a1,nI a2] []=some (.bool r,[]):=by
 unfold m72 at h;rw [ev fn72 rfl];obtain ⟨v4,w3,h⟩:=bcall (e72_1 a0 a1 a2) h;(try simp -implicitDefEqProofs only [go_sem] at w3);cases h;simp -implicitDefEqProofs only [go_sem,i72,c72,w3]
theorem call75:CL 75 [[0]]:=evCall0 fn75 rfl rfl rfl
theorem callz75:CZ 75 [[0]] [[0]]:=evCallFz0 fn75 rfl rfl rfl
attribute [go_sem] call75 callz75
theorem e75 (a0:Int)(r:Bool)(h:m75 a0=some r):evFL T 75 [nI a0] []=some (.bool r,[]):=by
 unfold m75 at h;rw [ev fn75 rfl];obtain ⟨r3,w2,h⟩:=bcall (e72 a0 0 4294967295) h;(try simp -implicitDefEqProofs only [go_sem] at w2);cases h;simp -implicitDefEqProofs only [go_sem,i75,c75,w2]
@[go_sem] theorem callz76:CZ 76 [[0]] [[0,0]]:=evCallFz0 fn76 rfl rfl rfl
theorem e76 (a0:Prefix)(r:Int)(h:m76 a0=some r):evFL T 76 [.agg (nPre a0)] []=some (nI r,[]):=by
 unfold m76 at h;rw [ev fn76 rfl];obtain ⟨g1,h⟩:=ck_some h;(try simp -implicitDefEqProofs only [go_sem] at g1);cases h;simp -implicitDefEqProofs only [go_sem,i76,c76,g1]
@[go_sem] theorem call48:CL 48 [[0,0]]:=evCall0 fn48 rfl rfl rfl
theorem e48_1 (a0:Prefix)(o:Bool)(h:m48_1 a0=some o):evCL T 0 k48_1 (frOf 19 (upd anyF 1 (.ptr 0 0 0))) [some ⟨.box,2,[(nPre a0)]⟩]=some (.normal,frOf 19 (upd anyF 2 (.bool o)),[]):=by
 unfold m48_1 at h;obtain ⟨r3,w2,h⟩:=bcall (e72 a0.len 0 32) h;try simp -implicitDefEqProofs only [go_sem] at w2
 rcases brx h with ⟨b4,h⟩|⟨b4,h⟩
 rotate_left
 obtain ⟨r7,w6,h⟩:=bcall (e75 a0.addr) h;try simp -implicitDefEqProofs only [go_sem] at w6
 rcases brx h with ⟨b8,h⟩|⟨b8,h⟩
 rotate_left
 obtain ⟨r11,w10,h⟩:=bcall (e76 a0) h;(try simp -implicitDefEqProofs only [go_sem] at w10);obtain ⟨g12,h⟩:=ck_some h;try simp -implicitDefEqProofs only [go_sem] at g12
 all_goals cases h;simp -implicitDefEqProofs only [go_sem,k48_1, *]
theorem e48 (a0:Prefix)(r:Bool)(h:m48 a0=some r):evFL T 48 [.agg (nPre a0)] []=some (.bool r,[]):=by
 unfold m48 at h;rw [ev fn48 rfl];obtain ⟨v15,w14,h⟩:=bcall (e48_1 a0) h;(try simp -implicitDefEqProofs only [go_sem] at w14);cases h;simp -implicitDefEqProofs only [go_sem,i48,c48,w14]
@[go_sem] theorem call73:CL 73 [[0,0]]:=evCall0 fn73 rfl rfl rfl
theorem e73_3 (a0:Acn)(p5:Bool)(o:Bool)(h:m73_3 a0 p5=some o):evCL T 0 k73_3 (frOf 21 (upd (upd (upd anyF 1 (.ptr 0 0 0)) 4 (nI a0.kind)) 5 (.bool p5))) [some ⟨.box,2,[[nI a0.kind,nI a0.n]]⟩]=some (.normal,frOf 21 (upd (upd anyF 1 (.ptr 0 0 0)) 5 (.bool o)),[some ⟨.box,2,[[nI a0.kind,nI a0.n]]⟩]):=by
 unfold m73_3 at h
 rcases brx h with ⟨b6,h⟩|⟨b6,h⟩
 all_goals cases h;simp -implicitDefEqProofs only [go_sem,k73_3,b6]
theorem e73_2 (a0:Acn)(p3:Bool)(o:Bool)(h:m73_2 a0 p3=some o):evCL T 0 k73_2 (frOf 21 (upd (upd (upd anyF 1 (.ptr 0 0 0)) 4 (nI a0.kind)) 5 (.bool p3))) [some ⟨.box,2,[[nI a0.kind,nI a0.n]]⟩]=some (.normal,frOf 21 (upd (upd anyF 1 (.ptr 0 0 0)) 5 (.bool o)),[some ⟨.box,2,[[nI a0.kind,nI a0.n]]⟩]):=by
 unfold m73_2 at h
 rcases brx h with ⟨b4,h⟩|⟨b4,h⟩
 obtain ⟨v9,w8,h⟩:=bcall (e73_3 a0 (eqI a0.kind 3)) h;try simp -implicitDefEqProofs only [go_sem] at w8
 all_goals cases h;simp -implicitDefEqProofs only [go_sem,k73_2, *]
theorem e73_1 (a0:Acn)(p1:Bool)(o:Bool)(h:m73_1 a0 p1=some o):evCL T 0 k73_1 (frOf 21 (upd (upd (upd anyF 1 (.ptr 0 0 0)) 4 (nI a0.kind)) 5 (.bool p1))) [some ⟨.box,2,[[nI a0.kind,nI a0.n]]⟩]=some (.normal,frOf 21 (upd (upd anyF 1 (.ptr 0 0 0)) 5 (.bool o)),[some ⟨.box,2,[[nI a0.kind,nI a0.n]]⟩]):=by
 unfold m73_1 at h
 rcases brx h with ⟨b2,h⟩|⟨b2,h⟩
 obtain ⟨v12,w11,h⟩:=bcall (e73_2 a0 (eqI a0.kind 2)) h;try simp -implicitDefEqProofs only [go_sem] at w11
 all_goals cases h;simp -implicitDefEqProofs only [go_sem,k73_1, *]
theorem e73_4 (a0:Acn)(o:Bool)(h:m73_4 a0=some o):evCL T 0 k73_4 (frOf 21 (upd anyF 1 (.ptr 0 0 0))) [some ⟨.box,2,[[nI a0.kind,nI a0.n]]⟩]=some (.normal,frOf 21 (upd anyF 2 (.bool o)),[]):=by
 unfold m73_4 at h
 rcases brx h with ⟨b20,h⟩|⟨b20,h⟩
 rotate_left
 obtain ⟨r23,w22,h⟩:=bcall (e72 a0.n 1 65535) h;try simp -implicitDefEqProofs only [go_sem] at w22
 all_goals cases h;simp -implicitDefEqProofs only [go_sem,k73_4, *]
theorem e73 (a0:Acn)(r:Bool)(h:m73 a0=some r):evFL T 73 [.agg [nI a0.kind,nI a0.n]] []=some (.bool r,[]):=by
 unfold m73 at h;rw [ev fn73 rfl];obtain ⟨v15,w14,h⟩:=bcall (e73_1 a0 (eqI a0.kind 1)) h;try simp -implicitDefEqProofs only [go_sem] at w14
 rcases brx h with ⟨b16,h⟩|⟨b16,h⟩
 obtain ⟨v26,w25,h⟩:=bcall (e73_4 a0) h;try simp -implicitDefEqProofs only [go_sem] at w25
 rotate_left
 obtain ⟨r19,w18,h⟩:=bcall (e72 a0.n 0 1000000) h;try simp -implicitDefEqProofs only [go_sem] at w18
 all_goals cases h;simp -implicitDefEqProofs only [go_sem,i73,c73, *]
@[go_sem] theorem call149:CL 149 [[0]]:=evCall0 fn149 rfl rfl rfl
theorem e149_3 (a0:Int)(p5:Bool)(o:Bool)(h:m149_3 a0 p5=some o):evCL T 0 k149_3 (frOf 14 (upd (upd anyF 3 (nI a0)) 4 (.bool p5))) []=some (.normal,frOf 14 (upd (upd anyF 3 (nI a0)) 4 (.bool o)),[]):=by
 unfold m149_3 at h
 rcases brx h with ⟨b6,h⟩|⟨b6,h⟩
 all_goals cases h;simp -implicitDefEqProofs only [go_sem,k149_3,b6]
theorem e149_2 (a0:Int)(p3:Bool)(o:Bool)(h:m149_2 a0 p3=some o):evCL T 0 k149_2 (frOf 14 (upd (upd anyF 3 (nI a0)) 4 (.bool p3))) []=some (.normal,frOf 14 (upd (upd anyF 3 (nI a0)) 4 (.bool o)),[]):=by
 unfold m149_2 at h
 rcases brx h with ⟨b4,h⟩|⟨b4,h⟩
 obtain ⟨v9,w8,h⟩:=bcall (e149_3 a0 (eqI a0 3)) h;try simp -implicitDefEqProofs only [go_sem] at w8
 all_goals cases h;simp -implicitDefEqProofs only [go_sem,k149_2, *]
theorem e149_1 (a0:Int)(p1:Bool)(o:Bool)(h:m149_1 a0 p1=some o):evCL T 0 k149_1 (frOf 14 (upd (upd anyF 3 (nI a0)) 4 (.bool p1))) []=some (.normal,frOf 14 (upd (upd anyF 3 (nI a0)) 4 (.bool o)),[]):=by
 unfold m149_1 at h
 rcases brx h with ⟨b2,h⟩|⟨b2,h⟩
 obtain ⟨v12,w11,h⟩:=bcall (e149_2 a0 (eqI a0 2)) h;try simp -implicitDefEqProofs only [go_sem] at w11
 all_goals cases h;simp -implicitDefEqProofs only [go_sem,k149_1, *]
theorem e149_4 (a0:Int)(p17:Bool)(o:Bool)(h:m149_4 a0 p17=some o):evCL T 0 k149_4 (frOf 14 (upd (upd anyF 3 (nI a0)) 9 (.bool p17))) []=some (.normal,frOf 14 (upd (upd anyF 3 (nI a0)) 9 (.bool o)),[]):=by
 unfold m149_4 at h
 rcases brx h with ⟨b18,h⟩|⟨b18,h⟩
 all_goals cases h;simp -implicitDefEqProofs only [go_sem,k149_4,b18]
theorem e149 (a0:Int)(r:Int)(h:m149 a0=some r):evFL T 149 [nI a0] []=some (nI r,[]):=by
 unfold m149 at h;rw [ev fn149 rfl];obtain ⟨v15,w14,h⟩:=bcall (e149_1 a0 (eqI a0 1)) h;try simp -implicitDefEqProofs only [go_sem] at w14
 rcases brx h with ⟨b16,h⟩|⟨b16,h⟩
 obtain ⟨v21,w20,h⟩:=bcall (e149_4 a0 (eqI a0 5)) h;try simp -implicitDefEqProofs only [go_sem] at w20
 rcases brx h with ⟨b22,h⟩|⟨b22,h⟩
 try simp -implicitDefEqProofs only [go_sem,i149,c149,w14,b16,w20,b22]
 rcases brx h with ⟨b23,h⟩|⟨b23,h⟩
 all_goals cases h;simp -implicitDefEqProofs only [go_sem,i149,c149, *]
@[go_sem] theorem call139:CL 139 [[2],[0]]:=evCall0 fn139 rfl rfl rfl
theorem e139_1 (rc:(List ReCell)→Int→Option (l6T×Int))(hrc:∀(a0:List ReCell) (a1:Int) (r:(l6T×Int)),rc a0 a1=some r→evFL T 139 [.ts .imm 2 (a0.map nReC),nI a1] []=some (.tup [.agg [nI r.1.kind_,nI r.1.n_,.sl 0 0 r.1.kids_.length],nI r.2],[some ⟨.arr,3,r.1.kids_.map (nl6T .own)⟩]))(a0:List ReCell)(a1:Int)(r9:Int)(x2:ReCell)(o:Bool)(h:m139_1 rc r9 x2=some o):evCL T 0 k139_1 (frOf 76 (upd (upd (upd (upd (upd anyF 0 (.ts .imm 2 (a0.map nReC))) 1 (nI a1)) 4 (.ptr 0 0 0)) 6 (.ptr 2 0 0)) 7 (nI r9))) [some ⟨.box,3,[[nI 0,nI 0,.sl 1 0 0]]⟩,some ⟨.arr,3,[]⟩,some ⟨.box,2,[[nI x2.kind,nI x2.n]]⟩]=some (.normal,frOf 76 (upd (upd (upd (upd (upd (upd anyF 0 (.ts .imm 2 (a0.map nReC))) 1 (nI a1)) 4 (.ptr 0 0 0)) 6 (.ptr 2 0 0)) 7 (nI r9)) 45 (.bool o)),[some ⟨.box,3,[[nI 0,nI 0,.sl 1 0 0]]⟩,some ⟨.arr,3,[]⟩,some ⟨.box,2,[[nI x2.kind,nI x2.n]]⟩]):=by
 unfold m139_1 at h
 rcases brx h with ⟨b10,h⟩|⟨b10,h⟩
 try simp -implicitDefEqProofs only [go_sem,k139_1,b10]
 rcases brx h with ⟨b11,h⟩|⟨b11,h⟩
 rotate_left
 obtain ⟨r14,w13,h⟩:=bcall (e72 x2.n 1 65535) h;try simp -implicitDefEqProofs only [go_sem] at w13
 rcases brx h with ⟨b15,h⟩|⟨b15,h⟩
 all_goals cases h;simp -implicitDefEqProofs only [go_sem,k139_1, *]
@[go_sem] noncomputable def X139_2 (x2:ReCell)(o:((Int×List l6T) ⊕ Unit)):Ex×Fr×St :=
 match o with
 | .inl o=>(.exit 0,frOf 76 (upd (upd (upd anyF 1 (nI o.1)) 4 (.ptr 0 0 0)) 8 (.ptr 2 0 0)),[some ⟨.box,3,[[nI 0,nI 0,.sl 1 0 0]]⟩,some ⟨.arr,3,[]⟩,some ⟨.box,3,[[nI x2.kind,nI x2.n,.sl 3 0 o.2.length]]⟩,some ⟨.arr,3,o.2.map (nl6T .own)⟩])
 | .inr o=>(.ret,frOf 76 (upd (upd anyF 4 (.ptr 0 0 0)) 5 (nI 0)),[some ⟨.box,3,[[nI 0,nI 0,.sl 1 0 0]]⟩,some ⟨.arr,3,[]⟩])
@[go_sem] noncomputable def E139_2 (a0:List ReCell)(x2:ReCell)(s:(Int×Int×List l6T)):Fr×St:=(frOf 76 (upd (upd (upd (upd (upd anyF 0 (.ts .imm 2 (a0.map nReC))) 1 (nI s.1)) 4 (.ptr 0 0 0)) 7 (nI s.2.1)) 8 (.ptr 2 0 0)),[some ⟨.box,3,[[nI 0,nI 0,.sl 1 0 0]]⟩,some ⟨.arr,3,[]⟩,some ⟨.box,3,[[nI x2.kind,nI x2.n,.sl 3 0 s.2.2.length]]⟩,some ⟨.arr,3,s.2.2.map (nl6T .own)⟩])
theorem e139_2 (rc:(List ReCell)→Int→Option (l6T×Int))(hrc:∀(a0:List ReCell) (a1:Int) (r:(l6T×Int)),rc a0 a1=some r→evFL T 139 [.ts .imm 2 (a0.map nReC),nI a1] []=some (.tup [.agg [nI r.1.kind_,nI r.1.n_,.sl 0 0 r.1.kids_.length],nI r.2],[some ⟨.arr,3,r.1.kids_.map (nl6T .own)⟩]))(a0:List ReCell)(x2:ReCell):LW T 0 k139_2b (m139_2b rc a0) (E139_2 a0 x2) (X139_2 x2):=by
 refine lwk (by rintro (b | b)<;>nofun) fun s o h=>?_
 unfold m139_2b at h;obtain ⟨s27,s28,s29⟩:=s;replace h:=sel3_some h
 rcases brx h with ⟨b30,h⟩|⟨b30,h⟩
 rotate_left
 obtain ⟨⟨r33,r34⟩,w32,h⟩:=bcall (hrc a0 s27) h;replace h:=sel2_some h;try simp -implicitDefEqProofs only [go_sem] at w32
 rcases brx h with ⟨b35,h⟩|⟨b35,h⟩
 obtain ⟨g36,h⟩:=ck_some h;try simp -implicitDefEqProofs only [go_sem] at g36
 all_goals cases h;simp -implicitDefEqProofs only [go_sem,k139_2b, *]
theorem e139r (rc:(List ReCell)→Int→Option (l6T×Int))(hrc:∀(a0:List ReCell) (a1:Int) (r:(l6T×Int)),rc a0 a1=some r→evFL T 139 [.ts .imm 2 (a0.map nReC),nI a1] []=some (.tup [.agg [nI r.1.kind_,nI r.1.n_,.sl 0 0 r.1.kids_.length],nI r.2],[some ⟨.arr,3,r.1.kids_.map (nl6T .own)⟩]))(a0:List ReCell)(a1:Int)(r:(l6T×Int))(h:m139r rc a0 a1=some r):evFL T 139 [.ts .imm 2 (a0.map nReC),nI a1] []=some (.tup [.agg [nI r.1.kind_,nI r.1.n_,.sl 0 0 r.1.kids_.length],nI r.2],[some ⟨.arr,3,r.1.kids_.map (nl6T .own)⟩]):=by
 unfold m139r at h;rw [ev fn139 rfl]
 rcases brx h with ⟨b1,h⟩|⟨b1,h⟩
 obtain ⟨x2,g4,g5,g6,h⟩:=bidx nReC h;obtain ⟨r9,w8,h⟩:=bcall (e149 x2.kind) h;obtain ⟨v18,w17,h⟩:=bcall (e139_1 rc hrc a0 a1 r9 x2) h;(try simp -implicitDefEqProofs only [go_sem] at g5 g6 w8);try simp -implicitDefEqProofs only [go_sem] at w17
 rcases brx h with ⟨b19,h⟩|⟨b19,h⟩
 (try simp -implicitDefEqProofs only [go_sem,i139,c139,b1,g4,g5,g6,w8,w17,b19]);obtain ⟨o,w38,h⟩:=bcall (e139_2 rc hrc a0 x2 (wadd .i64 a1 1,r9,[])) h
 rcases o with ⟨v39,v40⟩|⟨⟩
 replace h:=selS_l h;replace h:=sel2_some h;try simp -implicitDefEqProofs only [go_sem] at w38
 rotate_left
 replace h:=selS_r h;try simp -implicitDefEqProofs only [go_sem] at w38
 all_goals cases h;simp -implicitDefEqProofs only [go_sem,i139,c139, *]
theorem e139k:∀(k:Nat) (a0:List ReCell) (a1:Int) (r:(l6T×Int)) (h:m139k k a0 a1=some r),evFL T 139 [.ts .imm 2 (a0.map nReC),nI a1] []=some (.tup [.agg [nI r.1.kind_,nI r.1.n_,.sl 0 0 r.1.kids_.length],nI r.2],[some ⟨.arr,3,r.1.kids_.map (nl6T .own)⟩]):=by
 intro k
 induction k with
 | zero=>intro a0 a1 r h;cases h
 | succ k ih=>intro a0 a1 r h;exact e139r (m139k k) (fun a0 a1 r h=>ih a0 a1 r h) a0 a1 r h
theorem e139 (a0:List ReCell)(a1:Int)(r:(l6T×Int))(h:m139 a0 a1=some r):evFL T 139 [.ts .imm 2 (a0.map nReC),nI a1] []=some (.tup [.agg [nI r.1.kind_,nI r.1.n_,.sl 0 0 r.1.kids_.length],nI r.2],[some ⟨.arr,3,r.1.kids_.map (nl6T .own)⟩]):=by
 obtain ⟨N,hN⟩:=limO_iff.1 h;exact e139k N a0 a1 r (hN N (Nat.le_refl N))
@[go_sem] theorem call109:CL 109 [[2]]:=evCall0 fn109 rfl rfl rfl
theorem e109_1 (a0:List ReCell)(r5:Int)(r4:l6T)(o:Bool)(h:m109_1 a0 r5=some o):evCL T 0 k109_1 (frOf 24 (upd (upd (upd (upd anyF 0 (.ts .imm 2 (a0.map nReC))) 2 (.ptr 0 0 0)) 4 (.ptr 2 0 0)) 5 (nI r5))) [some ⟨.box,3,[[nI 0,nI 0,.sl 1 0 0]]⟩,some ⟨.arr,3,[]⟩,some ⟨.box,3,[[nI r4.kind_,nI r4.n_,.sl 3 0 r4.kids_.length]]⟩,some ⟨.arr,3,r4.kids_.map (nl6T .own)⟩]=some (.normal,frOf 24 (upd (upd anyF 2 (.ptr 0 0 0)) 3 (.bool o)),[some ⟨.box,3,[[nI r4.kind_,nI r4.n_,.sl 1 0 r4.kids_.length]]⟩,some ⟨.arr,3,r4.kids_.map (nl6T .own)⟩]):=by
 unfold m109_1 at h
 rcases brx h with ⟨b6,h⟩|⟨b6,h⟩
 all_goals cases h;simp -implicitDefEqProofs only [go_sem,k109_1,b6]
theorem e109 (a0:List ReCell)(r:(l6T×Bool))(h:m109 a0=some r):evFL T 109 [.ts .imm 2 (a0.map nReC)] []=some (.tup [.agg [nI r.1.kind_,nI r.1.n_,.sl 0 0 r.1.kids_.length],.bool r.2],[some ⟨.arr,3,r.1.kids_.map (nl6T .own)⟩]):=by
 unfold m109 at h;rw [ev fn109 rfl]
 rcases brx h with ⟨b1,h⟩|⟨b1,h⟩
 obtain ⟨⟨r4,r5⟩,w3,h⟩:=bcall (e139 a0 0) h;replace h:=sel2_some h;obtain ⟨v9,w8,h⟩:=bcall (e109_1 a0 r5 r4) h;(try simp -implicitDefEqProofs only [go_sem] at w3);try simp -implicitDefEqProofs only [go_sem] at w8
 all_goals cases h;simp -implicitDefEqProofs only [go_sem,i109,c109, *]
@[go_sem] theorem call74:CL 74 [[2]]:=evCall0 fn74 rfl rfl rfl
theorem e74 (a0:List ReCell)(r:Bool)(h:m74 a0=some r):evFL T 74 [.ts .imm 2 (a0.map nReC)] []=some (.bool r,[]):=by
 unfold m74 at h;rw [ev fn74 rfl];obtain ⟨⟨r3,r4⟩,w2,h⟩:=bcall (e109 a0) h;replace h:=sel2_some h;(try simp -implicitDefEqProofs only [go_sem] at w2);cases h;simp -implicitDefEqProofs only [go_sem,i74,c74,w2]
@[go_sem] theorem call47:CL 47 [[4,2,0,2,0]]:=evCall0 fn47 rfl rfl rfl
theorem e47_3 (a0:Term)(p1:Int)(s23:Int)(x25:Range)(o:Bool)(h:m47_3 x25=some o):evCL T 0 k47_3 (frOf 78 (upd (upd (upd (upd (upd anyF 1 (.ptr 0 0 0)) 4 (.ptr 1 0 0)) 8 (.ts .imm 4 (a0.ranges.map nRan))) 9 (nI p1)) 10 (nI s23))) [some ⟨.box,5,[(nTer .imm a0)]⟩,some ⟨.box,4,[(nRan x25)]⟩]=some (.normal,frOf 78 (upd (upd (upd (upd (upd anyF 1 (.ptr 0 0 0)) 8 (.ts .imm 4 (a0.ranges.map nRan))) 9 (nI p1)) 10 (nI s23)) 34 (.bool o)),[some ⟨.box,5,[(nTer .imm a0)]⟩]):=by
 unfold m47_3 at h;obtain ⟨r32,w31,h⟩:=bcall (e48 x25.prefix_) h;try simp -implicitDefEqProofs only [go_sem] at w31
 rcases brx h with ⟨b33,h⟩|⟨b33,h⟩
 rotate_left
 obtain ⟨r36,w35,h⟩:=bcall (e72 x25.lo x25.prefix_.len 32) h;try simp -implicitDefEqProofs only [go_sem] at w35
 rcases brx h with ⟨b37,h⟩|⟨b37,h⟩
 rotate_left
 obtain ⟨r40,w39,h⟩:=bcall (e72 x25.hi x25.lo 32) h;try simp -implicitDefEqProofs only [go_sem] at w39
 all_goals cases h;simp -implicitDefEqProofs only [go_sem,k47_3, *]
@[go_sem] noncomputable def X47_1 (a0:Term)(o:(Unit ⊕ Unit)):Ex×Fr×St :=
 match o with
 | .inl o=>(.exit 0,frOf 78 (upd anyF 1 (.ptr 0 0 0)),[some ⟨.box,5,[(nTer .imm a0)]⟩])
 | .inr o=>(.ret,frOf 78 (upd anyF 2 (.bool false)),[])
@[go_sem] noncomputable def E47_1 (a0:Term)(p1:Int)(s:Int):Fr×St:=(frOf 78 (upd (upd (upd (upd anyF 1 (.ptr 0 0 0)) 8 (.ts .imm 4 (a0.ranges.map nRan))) 9 (nI p1)) 10 (nI s)),[some ⟨.box,5,[(nTer .imm a0)]⟩])
theorem e47_1 (a0:Term)(p1:Int):LW T 0 k47_1b (m47_1b a0 p1) (E47_1 a0 p1) (X47_1 a0):=by
 refine lwk (by rintro (b | b)<;>nofun) fun s o h=>?_
 unfold m47_1b at h
 revert h
 generalize s=s23;intro h
 rcases brx h with ⟨b24,h⟩|⟨b24,h⟩
 rotate_left
 obtain ⟨x25,g27,g28,g29,h⟩:=bidx nRan h;obtain ⟨v43,w42,h⟩:=bcall (e47_3 a0 p1 s23 x25) h;(try simp -implicitDefEqProofs only [go_sem] at g28 g29);try simp -implicitDefEqProofs only [go_sem] at w42
 rcases brx h with ⟨b44,h⟩|⟨b44,h⟩
 all_goals cases h;simp -implicitDefEqProofs only [go_sem,k47_1b, *]
@[go_sem] noncomputable def X47_4 (a0:Term)(o:(Unit ⊕ Unit)):Ex×Fr×St :=
 match o with
 | .inl o=>(.exit 2,frOf 78 (upd anyF 1 (.ptr 0 0 0)),[some ⟨.box,5,[(nTer .imm a0)]⟩])
 | .inr o=>(.ret,frOf 78 (upd anyF 2 (.bool false)),[])
@[go_sem] noncomputable def E47_4 (a0:Term)(p47:Int)(s:Int):Fr×St:=(frOf 78 (upd (upd (upd (upd anyF 1 (.ptr 0 0 0)) 37 (.ts .imm 2 (a0.acts.map nAcn))) 38 (nI p47)) 39 (nI s)),[some ⟨.box,5,[(nTer .imm a0)]⟩])
theorem e47_4 (a0:Term)(p47:Int):LW T 0 k47_4b (m47_4b a0 p47) (E47_4 a0 p47) (X47_4 a0):=by
 refine lwk (by rintro (b | b)<;>nofun) fun s o h=>?_
 unfold m47_4b at h
 revert h
 generalize s=s58;intro h
 rcases brx h with ⟨b59,h⟩|⟨b59,h⟩
 rotate_left
 obtain ⟨x60,g62,g63,g64,h⟩:=bidx nAcn h;obtain ⟨r67,w66,h⟩:=bcall (e73 x60) h;try simp -implicitDefEqProofs only [go_sem] at g63 g64 w66
 rcases brx h with ⟨b68,h⟩|⟨b68,h⟩
 all_goals cases h;simp -implicitDefEqProofs only [go_sem,k47_4b, *]
theorem e47_5 (a0:Term)(o:Bool)(h:m47_5 a0=some o):evCL T 0 k47_5 (frOf 78 (upd anyF 1 (.ptr 0 0 0))) [some ⟨.box,5,[(nTer .imm a0)]⟩]=some (.normal,frOf 78 (upd anyF 2 (.bool o)),[]):=by
 unfold m47_5 at h
 rcases brx h with ⟨b71,h⟩|⟨b71,h⟩
 rotate_left
 try simp -implicitDefEqProofs only [go_sem,k47_5,b71]
 rcases brx h with ⟨b72,h⟩|⟨b72,h⟩
 rotate_left
 try simp -implicitDefEqProofs only [go_sem,k47_5,b71,b72]
 rcases brx h with ⟨b73,h⟩|⟨b73,h⟩
 obtain ⟨r83,w82,h⟩:=bcall (e74 a0.path) h;try simp -implicitDefEqProofs only [go_sem] at w82
 rcases brx h with ⟨b84,h⟩|⟨b84,h⟩
 rotate_left
 obtain ⟨r87,w86,h⟩:=bcall (e72 a0.comm (-1) 1000000) h;try simp -implicitDefEqProofs only [go_sem] at w86
 rcases brx h with ⟨b88,h⟩|⟨b88,h⟩
 rotate_left
 obtain ⟨r91,w90,h⟩:=bcall (e72 a0.verdict 0 2) h;try simp -implicitDefEqProofs only [go_sem] at w90
 rotate_left
 obtain ⟨r76,w75,h⟩:=bcall (e72 a0.comm (-1) 1000000) h;try simp -implicitDefEqProofs only [go_sem] at w75
 rcases brx h with ⟨b77,h⟩|⟨b77,h⟩
 rotate_left
 obtain ⟨r80,w79,h⟩:=bcall (e72 a0.verdict 0 2) h;try simp -implicitDefEqProofs only [go_sem] at w79
 all_goals cases h;simp -implicitDefEqProofs only [go_sem,k47_5, *]
theorem e47 (a0:Term)(r:Bool)(h:m47 a0=some r):evFL T 47 [.agg (nTer .imm a0)] []=some (.bool r,[]):=by
 unfold m47 at h;rw [ev fn47 rfl];(try simp -implicitDefEqProofs only [go_sem,i47,c47]);obtain ⟨o,w46,h⟩:=bcall (e47_1 a0 (↑a0.ranges.length:Int) 0) h
 rcases o with ⟨⟩|⟨⟩
 replace h:=selS_l h;(try simp -implicitDefEqProofs only [go_sem] at w46);(try simp -implicitDefEqProofs only [go_sem,i47,c47,w46]);obtain ⟨o,w70,h⟩:=bcall (e47_4 a0 (↑a0.acts.length:Int) 0) h
 rcases o with ⟨⟩|⟨⟩
 replace h:=selS_l h;simp -implicitDefEqProofs only [go_sem] at w70;obtain ⟨v94,w93,h⟩:=bcall (e47_5 a0) h;(try simp -implicitDefEqProofs only [go_sem] at w70);try simp -implicitDefEqProofs only [go_sem] at w93
 rotate_left
 replace h:=selS_r h;try simp -implicitDefEqProofs only [go_sem] at w70
 rotate_left
 replace h:=selS_r h;try simp -implicitDefEqProofs only [go_sem] at w46
 all_goals cases h;simp -implicitDefEqProofs only [go_sem,i47,c47, *]
@[go_sem] theorem call25:CL 25 [[5,0]]:=evCall0 fn25 rfl rfl rfl
@[go_sem] noncomputable def X25_1 (a0:Policy)(o:(Unit ⊕ Unit)):Ex×Fr×St :=
 match o with
 | .inl o=>(.exit 0,frOf 20 (upd anyF 1 (.ptr 0 0 0)),[some ⟨.box,2,[(nPol .imm a0)]⟩])
 | .inr o=>(.ret,frOf 20 (upd anyF 2 (.bool false)),[])
@[go_sem] noncomputable def E25_1 (a0:Policy)(p1:Int)(s:Int):Fr×St:=(frOf 20 (upd (upd (upd (upd anyF 1 (.ptr 0 0 0)) 6 (.ts .imm 5 (a0.terms.map (nTer .imm)))) 7 (nI p1)) 8 (nI s)),[some ⟨.box,2,[(nPol .imm a0)]⟩])
theorem e25_1 (a0:Policy)(p1:Int):LW T 0 k25_1b (m25_1b a0 p1) (E25_1 a0 p1) (X25_1 a0):=by
 refine lwk (by rintro (b | b)<;>nofun) fun s o h=>?_
 unfold m25_1b at h
 revert h
 generalize s=s12;intro h
 rcases brx h with ⟨b13,h⟩|⟨b13,h⟩
 rotate_left
 obtain ⟨x14,g16,g17,g18,h⟩:=bidx (nTer .imm) h;obtain ⟨r21,w20,h⟩:=bcall (e47 x14) h;try simp -implicitDefEqProofs only [go_sem] at g17 g18 w20
 rcases brx h with ⟨b22,h⟩|⟨b22,h⟩
 all_goals cases h;simp -implicitDefEqProofs only [go_sem,k25_1b, *]
theorem e25 (a0:Policy)(r:Bool)(h:m25 a0=some r):evFL T 25 [.agg (nPol .imm a0)] []=some (.bool r,[]):=by
 unfold m25 at h;rw [ev fn25 rfl];(try simp -implicitDefEqProofs only [go_sem,i25,c25]);obtain ⟨o,w24,h⟩:=bcall (e25_1 a0 (↑a0.terms.length:Int) 0) h
 rcases o with ⟨⟩|⟨⟩
 replace h:=selS_l h;try simp -implicitDefEqProofs only [go_sem] at w24
 rotate_left
 replace h:=selS_r h;try simp -implicitDefEqProofs only [go_sem] at w24
 all_goals cases h;simp -implicitDefEqProofs only [go_sem,i25,c25,w24]
@[go_sem] theorem call49:CL 49 [[0,1,0,0,0,1]]:=evCall0 fn49 rfl rfl rfl
@[go_sem] noncomputable def X49_1 (a0:Attrs)(o:(Unit ⊕ Unit)):Ex×Fr×St :=
 match o with
 | .inl o=>(.exit 0,frOf 74 (upd anyF 1 (.ptr 0 0 0)),[some ⟨.box,6,[(nAtt .imm a0)]⟩])
 | .inr o=>(.ret,frOf 74 (upd anyF 2 (.bool false)),[])
@[go_sem] noncomputable def E49_1 (a0:Attrs)(p1:Int)(s:Int):Fr×St:=(frOf 74 (upd (upd (upd (upd anyF 1 (.ptr 0 0 0)) 8 (.ts .imm 1 (a0.path.map nInt))) 9 (nI p1)) 10 (nI s)),[some ⟨.box,6,[(nAtt .imm a0)]⟩])
theorem e49_1 (a0:Attrs)(p1:Int):LW T 0 k49_1b (m49_1b a0 p1) (E49_1 a0 p1) (X49_1 a0):=by
 refine lwk (by rintro (b | b)<;>nofun) fun s o h=>?_
 unfold m49_1b at h
 revert h
 generalize s=s12;intro h
 rcases brx h with ⟨b13,h⟩|⟨b13,h⟩
 rotate_left
 obtain ⟨x14,g16,g17,g18,h⟩:=bidx nInt h;obtain ⟨r21,w20,h⟩:=bcall (e72 x14 1 65535) h;try simp -implicitDefEqProofs only [go_sem] at g17 g18 w20
 rcases brx h with ⟨b22,h⟩|⟨b22,h⟩
 all_goals cases h;simp -implicitDefEqProofs only [go_sem,k49_1b, *]
theorem e49_4 (s46:Int)(x48:Int)(a0:Attrs)(p25:Int)(o:Bool)(h:m49_4 s46 x48 a0=some o):evCL T 0 k49_4 (frOf 74 (upd (upd (upd (upd (upd (upd anyF 1 (.ptr 0 0 0)) 5 (nI s46)) 6 (nI x48)) 19 (.ts .imm 1 (a0.comms.map nInt))) 20 (nI p25)) 21 (nI s46))) [some ⟨.box,6,[(nAtt .imm a0)]⟩]=some (.normal,frOf 74 (upd (upd (upd (upd (upd anyF 1 (.ptr 0 0 0)) 19 (.ts .imm 1 (a0.comms.map nInt))) 20 (nI p25)) 21 (nI s46)) 42 (.bool o)),[some ⟨.box,6,[(nAtt .imm a0)]⟩]):=by
 unfold m49_4 at h;obtain ⟨r55,w54,h⟩:=bcall (e72 x48 0 1000000) h;try simp -implicitDefEqProofs only [go_sem] at w54
 rcases brx h with ⟨b56,h⟩|⟨b56,h⟩
 rotate_left
 try simp -implicitDefEqProofs only [go_sem,k49_4,w54,b56]
 rcases brx h with ⟨b57,h⟩|⟨b57,h⟩
 rotate_left
 obtain ⟨x58,g60,g61,g62,h⟩:=bidx nInt h;try simp -implicitDefEqProofs only [go_sem] at g61 g62
 all_goals cases h;simp -implicitDefEqProofs only [go_sem,k49_4, *]
@[go_sem] noncomputable def X49_2 (a0:Attrs)(o:(Unit ⊕ Unit)):Ex×Fr×St :=
 match o with
 | .inl o=>(.exit 2,frOf 74 (upd anyF 1 (.ptr 0 0 0)),[some ⟨.box,6,[(nAtt .imm a0)]⟩])
 | .inr o=>(.ret,frOf 74 (upd anyF 2 (.bool false)),[])
@[go_sem] noncomputable def E49_2 (a0:Attrs)(p25:Int)(s:Int):Fr×St:=(frOf 74 (upd (upd (upd (upd anyF 1 (.ptr 0 0 0)) 19 (.ts .imm 1 (a0.comms.map nInt))) 20 (nI p25)) 21 (nI s)),[some ⟨.box,6,[(nAtt .imm a0)]⟩])
theorem e49_2 (a0:Attrs)(p25:Int):LW T 0 k49_2b (m49_2b a0 p25) (E49_2 a0 p25) (X49_2 a0):=by
 refine lwk (by rintro (b | b)<;>nofun) fun s o h=>?_
 unfold m49_2b at h
 revert h
 generalize s=s46;intro h
 rcases brx h with ⟨b47,h⟩|⟨b47,h⟩
 rotate_left
 obtain ⟨x48,g50,g51,g52,h⟩:=bidx nInt h;obtain ⟨v65,w64,h⟩:=bcall (e49_4 s46 x48 a0 p25) h;(try simp -implicitDefEqProofs only [go_sem] at g51 g52);try simp -implicitDefEqProofs only [go_sem] at w64
 rcases brx h with ⟨b66,h⟩|⟨b66,h⟩
 all_goals cases h;simp -implicitDefEqProofs only [go_sem,k49_2b, *]
theorem e49_5 (a0:Attrs)(o:Bool)(h:m49_5 a0=some o):evCL T 0 k49_5 (frOf 74 (upd anyF 1 (.ptr 0 0 0))) [some ⟨.box,6,[(nAtt .imm a0)]⟩]=some (.normal,frOf 74 (upd anyF 2 (.bool o)),[]):=by
 unfold m49_5 at h;obtain ⟨r71,w70,h⟩:=bcall (e72 a0.origin 0 2) h;try simp -implicitDefEqProofs only [go_sem] at w70
 rcases brx h with ⟨b72,h⟩|⟨b72,h⟩
 rotate_left
 try simp -implicitDefEqProofs only [go_sem,k49_5,w70,b72]
 rcases brx h with ⟨b73,h⟩|⟨b73,h⟩
 rotate_left
 obtain ⟨r76,w75,h⟩:=bcall (e75 a0.next) h;try simp -implicitDefEqProofs only [go_sem] at w75
 rcases brx h with ⟨b77,h⟩|⟨b77,h⟩
 rotate_left
 obtain ⟨r80,w79,h⟩:=bcall (e72 a0.med 0 1000000) h;try simp -implicitDefEqProofs only [go_sem] at w79
 rcases brx h with ⟨b81,h⟩|⟨b81,h⟩
 rotate_left
 obtain ⟨r84,w83,h⟩:=bcall (e72 a0.pref 0 1000000) h;try simp -implicitDefEqProofs only [go_sem] at w83
 rcases brx h with ⟨b85,h⟩|⟨b85,h⟩
 all_goals cases h;simp -implicitDefEqProofs only [go_sem,k49_5, *]
theorem e49 (a0:Attrs)(r:Bool)(h:m49 a0=some r):evFL T 49 [.agg (nAtt .imm a0)] []=some (.bool r,[]):=by
 unfold m49 at h;rw [ev fn49 rfl];(try simp -implicitDefEqProofs only [go_sem,i49,c49]);obtain ⟨o,w24,h⟩:=bcall (e49_1 a0 (↑a0.path.length:Int) 0) h
 rcases o with ⟨⟩|⟨⟩
 replace h:=selS_l h;(try simp -implicitDefEqProofs only [go_sem] at w24);(try simp -implicitDefEqProofs only [go_sem,i49,c49,w24]);obtain ⟨o,w68,h⟩:=bcall (e49_2 a0 (↑a0.comms.length:Int) 0) h
 rcases o with ⟨⟩|⟨⟩
 replace h:=selS_l h;simp -implicitDefEqProofs only [go_sem] at w68;obtain ⟨v88,w87,h⟩:=bcall (e49_5 a0) h;(try simp -implicitDefEqProofs only [go_sem] at w68);try simp -implicitDefEqProofs only [go_sem] at w87
 rotate_left
 replace h:=selS_r h;try simp -implicitDefEqProofs only [go_sem] at w68
 rotate_left
 replace h:=selS_r h;try simp -implicitDefEqProofs only [go_sem] at w24
 all_goals cases h;simp -implicitDefEqProofs only [go_sem,i49,c49, *]
@[go_sem] theorem call26:CL 26 [[0,0,0,1,0,0,0,1]]:=evCall0 fn26 rfl rfl rfl
theorem e26_1 (a0:Route)(o:Bool)(h:m26_1 a0=some o):evCL T 0 k26_1 (frOf 11 (upd anyF 1 (.ptr 0 0 0))) [some ⟨.box,8,[(nRou .imm a0)]⟩]=some (.normal,frOf 11 (upd anyF 2 (.bool o)),[]):=by
 unfold m26_1 at h;obtain ⟨r3,w2,h⟩:=bcall (e48 a0.prefix_) h;try simp -implicitDefEqProofs only [go_sem] at w2
 rcases brx h with ⟨b4,h⟩|⟨b4,h⟩
 rotate_left
 obtain ⟨r7,w6,h⟩:=bcall (e49 a0.attrs) h;try simp -implicitDefEqProofs only [go_sem] at w6
 all_goals cases h;simp -implicitDefEqProofs only [go_sem,k26_1, *]
theorem e26 (a0:Route)(r:Bool)(h:m26 a0=some r):evFL T 26 [.agg (nRou .imm a0)] []=some (.bool r,[]):=by
 unfold m26 at h;rw [ev fn26 rfl];obtain ⟨v10,w9,h⟩:=bcall (e26_1 a0) h;(try simp -implicitDefEqProofs only [go_sem] at w9);cases h;simp -implicitDefEqProofs only [go_sem,i26,c26,w9]
@[go_sem] theorem call52:CL 52 [[0,1,0,0,0,1]]:=evCall0 fn52 rfl rfl rfl
theorem e52 (a0:Attrs)(r:Attrs)(h:m52 a0=some r):evFL T 52 [.agg (nAtt .imm a0)] []=some (.agg [nI r.origin,.sl 0 0 r.path.length,nI r.next,nI r.med,nI r.pref,.sl 1 0 r.comms.length],[some ⟨.arr,1,r.path.map nInt⟩,some ⟨.arr,1,r.comms.map nInt⟩]):=by
 unfold m52 at h;rw [ev fn52 rfl];obtain ⟨g1,h⟩:=ck_some h;(try simp -implicitDefEqProofs only [go_sem] at g1);obtain ⟨g2,h⟩:=ck_some h;(try simp -implicitDefEqProofs only [go_sem] at g2);cases h;simp -implicitDefEqProofs only [go_sem,i52,c52,g1,g2]
@[go_sem] theorem call28:CL 28 [[0,0,0,1,0,0,0,1]]:=evCall0 fn28 rfl rfl rfl
theorem e28 (a0:Route)(r:Route)(h:m28 a0=some r):evFL T 28 [.agg (nRou .imm a0)] []=some (.agg [nI r.prefix_.addr,nI r.prefix_.len,nI r.attrs.origin,.sl 0 0 r.attrs.path.length,nI r.attrs.next,nI r.attrs.med,nI r.attrs.pref,.sl 1 0 r.attrs.comms.length],[some ⟨.arr,1,r.attrs.path.map nInt⟩,some ⟨.arr,1,r.attrs.comms.map nInt⟩]):=by
 unfold m28 at h;rw [ev fn28 rfl];obtain ⟨r3,w2,h⟩:=bcall (e52 a0.attrs) h;(try simp -implicitDefEqProofs only [go_sem] at w2);cases h;simp -implicitDefEqProofs only [go_sem,i28,c28,w2]
@[go_sem] theorem call110:CL 110 [[0,0],[0]]:=evCall0 fn110 rfl rfl rfl
theorem e110 (a0:Prefix)(a1:Int)(r:Bool)(h:m110 a0 a1=some r):evFL T 110 [.agg (nPre a0),nI a1] []=some (.bool r,[]):=by
 unfold m110 at h;rw [ev fn110 rfl];obtain ⟨r3,w2,h⟩:=bcall (e76 a0) h;(try simp -implicitDefEqProofs only [go_sem] at w2);obtain ⟨g4,h⟩:=ck_some h;(try simp -implicitDefEqProofs only [go_sem] at g4);cases h;simp -implicitDefEqProofs only [go_sem,i110,c110,w2,g4]
@[go_sem] theorem call77:CL 77 [[0,0],[0,0]]:=evCall0 fn77 rfl rfl rfl
theorem e77_1 (a0:Prefix)(a1:Prefix)(o:Bool)(h:m77_1 a0 a1=some o):evCL T 0 k77_1 (frOf 16 (upd (upd anyF 2 (.ptr 0 0 0)) 3 (.ptr 1 0 0))) [some ⟨.box,2,[(nPre a0)]⟩,some ⟨.box,2,[(nPre a1)]⟩]=some (.normal,frOf 16 (upd anyF 4 (.bool o)),[]):=by
 unfold m77_1 at h
 rcases brx h with ⟨b1,h⟩|⟨b1,h⟩
 rotate_left
 obtain ⟨r4,w3,h⟩:=bcall (e110 a0 a1.addr) h;try simp -implicitDefEqProofs only [go_sem] at w3
 all_goals cases h;simp -implicitDefEqProofs only [go_sem,k77_1, *]
theorem e77 (a0:Prefix)(a1:Prefix)(r:Bool)(h:m77 a0 a1=some r):evFL T 77 [.agg (nPre a0),.agg (nPre a1)] []=some (.bool r,[]):=by
 unfold m77 at h;rw [ev fn77 rfl];obtain ⟨v7,w6,h⟩:=bcall (e77_1 a0 a1) h;(try simp -implicitDefEqProofs only [go_sem] at w6);cases h;simp -implicitDefEqProofs only [go_sem,i77,c77,w6]
@[go_sem] theorem call111:CL 111 [[1]]:=evCall0 fn111 rfl rfl rfl
@[go_sem] noncomputable def X111_1 (a0:List Int)(o:(Unit ⊕ Unit)):Ex×Fr×St :=
 match o with
 | .inl o=>(.exit 0,frOf 18 (upd anyF 0 (.ts .imm 1 (a0.map nInt))),[])
 | .inr o=>(.ret,frOf 18 (upd anyF 2 (.bool false)),[])
@[go_sem] noncomputable def E111_1 (a0:List Int)(p1:Int)(s:Int):Fr×St:=(frOf 18 (upd (upd (upd (upd anyF 0 (.ts .imm 1 (a0.map nInt))) 5 (.ts .imm 1 (a0.map nInt))) 6 (nI p1)) 7 (nI s)),[])
theorem e111_1 (a0:List Int)(p1:Int):LW T 0 k111_1b (m111_1b a0 p1) (E111_1 a0 p1) (X111_1 a0):=by
 refine lwk (by rintro (b | b)<;>nofun) fun s o h=>?_
 unfold m111_1b at h
 revert h
 generalize s=s12;intro h
 rcases brx h with ⟨b13,h⟩|⟨b13,h⟩
 rotate_left
 obtain ⟨x14,g16,g17,g18,h⟩:=bidx nInt h;obtain ⟨r21,w20,h⟩:=bcall (e72 x14 1 65535) h;try simp -implicitDefEqProofs only [go_sem] at g17 g18 w20
 rcases brx h with ⟨b22,h⟩|⟨b22,h⟩
 all_goals cases h;simp -implicitDefEqProofs only [go_sem,k111_1b, *]
theorem e111 (a0:List Int)(r:Bool)(h:m111 a0=some r):evFL T 111 [.ts .imm 1 (a0.map nInt)] []=some (.bool r,[]):=by
 unfold m111 at h;rw [ev fn111 rfl];(try simp -implicitDefEqProofs only [go_sem,i111,c111]);obtain ⟨o,w24,h⟩:=bcall (e111_1 a0 (↑a0.length:Int) 0) h
 rcases o with ⟨⟩|⟨⟩
 replace h:=selS_l h;try simp -implicitDefEqProofs only [go_sem] at w24
 rotate_left
 replace h:=selS_r h;try simp -implicitDefEqProofs only [go_sem] at w24
 all_goals cases h;simp -implicitDefEqProofs only [go_sem,i111,c111,w24]
@[go_sem] theorem call80 (args:List AV)(S:St):evCall T (evFL T) 80 args S=c3A true true (evFL T 80) (rawAll S [[1],[0]] args):=evCall3_g fn80 rfl (fun h=>absurd h.1 (by decide)) args S
theorem e80_3 (a1:Int)(s11:Int)(a0:List Int)(o:Bool)(h:m80_3 a1 s11 a0=some o):evCL T 1 k80_3 (frOf 48 (upd (upd (upd anyF 0 (.sl 1 0 a0.length)) 1 (nI a1)) 5 (nI s11))) [none,some ⟨.arr,1,a0.map nInt⟩]=some (.normal,frOf 48 (upd (upd (upd (upd anyF 0 (.sl 1 0 a0.length)) 1 (nI a1)) 5 (nI s11)) 18 (.bool o)),[none,some ⟨.arr,1,a0.map nInt⟩]):=by
 unfold m80_3 at h
 rcases brx h with ⟨b12,h⟩|⟨b12,h⟩
 rotate_left
 obtain ⟨x13,g15,g16,g17,h⟩:=bidx nInt h;try simp -implicitDefEqProofs only [go_sem] at g16 g17
 all_goals cases h;simp -implicitDefEqProofs only [go_sem,k80_3, *]
@[go_sem] noncomputable def X80_1 (a1:Int)(a0:List Int)(o:Int):Ex×Fr×St :=
 (.exit 0,frOf 48 (upd (upd (upd anyF 0 (.sl 1 0 a0.length)) 1 (nI a1)) 5 (nI o)),[none,some ⟨.arr,1,a0.map nInt⟩])
@[go_sem] noncomputable def E80_1 (a1:Int)(a0:List Int)(s:Int):Fr×St:=(frOf 48 (upd (upd (upd anyF 0 (.sl 1 0 a0.length)) 1 (nI a1)) 5 (nI s)),[none,some ⟨.arr,1,a0.map nInt⟩])
theorem e80_1 (a1:Int)(a0:List Int):LW T 1 k80_1b (m80_1b a1 a0) (E80_1 a1 a0) (X80_1 a1 a0):=by
 refine lwk nofun fun s o h=>?_
 unfold m80_1b at h
 revert h
 generalize s=s11;intro h;obtain ⟨v20,w19,h⟩:=bcall (e80_3 a1 s11 a0) h;try simp -implicitDefEqProofs only [go_sem] at w19
 rcases brx h with ⟨b21,h⟩|⟨b21,h⟩
 all_goals cases h;simp -implicitDefEqProofs only [go_sem,k80_1b,w19,b21]
theorem e80_4 (a1:Int)(v24:Int)(a0:List Int)(o:Bool)(h:m80_4 a1 v24 a0=some o):evCL T 1 k80_4 (frOf 48 (upd (upd (upd anyF 0 (.sl 1 0 a0.length)) 1 (nI a1)) 5 (nI v24))) [none,some ⟨.arr,1,a0.map nInt⟩]=some (.normal,frOf 48 (upd (upd (upd (upd anyF 0 (.sl 1 0 a0.length)) 1 (nI a1)) 5 (nI v24)) 32 (.bool o)),[none,some ⟨.arr,1,a0.map nInt⟩]):=by
 unfold m80_4 at h
 rcases brx h with ⟨b25,h⟩|⟨b25,h⟩
 rotate_left
 obtain ⟨x26,g28,g29,g30,h⟩:=bidx nInt h;try simp -implicitDefEqProofs only [go_sem] at g29 g30
 all_goals cases h;simp -implicitDefEqProofs only [go_sem,k80_4, *]
theorem e80 (a0:List Int)(a1:Int)(r:List Int)(h:m80 a0 a1=some r):evFL T 80 [.sl 0 0 a0.length,nI a1] [some ⟨.arr,1,a0.map nInt⟩]=some (.sl 1 0 r.length,[none,some ⟨.arr,1,r.map nInt⟩]):=by
 unfold m80 at h;rw [ev fn80 rfl];obtain ⟨v24,w23,h⟩:=bcall (e80_1 a1 a0 0) h;simp -implicitDefEqProofs only [go_sem] at w23;obtain ⟨v33,w32,h⟩:=bcall (e80_4 a1 v24 a0) h;(try simp -implicitDefEqProofs only [go_sem] at w23);try simp -implicitDefEqProofs only [go_sem] at w32
 rcases brx h with ⟨b34,h⟩|⟨b34,h⟩
 obtain ⟨g35,h⟩:=ck_some h;try simp -implicitDefEqProofs only [go_sem] at g35
 have g36:0+(v24.toNat)≤a0.length:=by (try simp only [List.length_take,List.length_drop,List.length_append,List.length_set,List.length_cons,List.length_nil]);omega
 have g37:v24.toNat≤a0.length:=by (try simp only [List.length_take,List.length_drop,List.length_append,List.length_set,List.length_cons,List.length_nil]);omega
 obtain ⟨g38,h⟩:=ck_some h;(try simp -implicitDefEqProofs only [go_sem] at g38);(try simp -implicitDefEqProofs only [go_sem,g36,g37] at g38);obtain ⟨g39,h⟩:=ck_some h;(try simp -implicitDefEqProofs only [go_sem] at g39);(try simp -implicitDefEqProofs only [go_sem,g36,g37] at g39);obtain ⟨g40,h⟩:=ck_some h;try simp -implicitDefEqProofs only [go_sem] at g40
 have g41:v24.toNat+(a0.length-v24.toNat)≤a0.length:=by (try simp only [List.length_take,List.length_drop,List.length_append,List.length_set,List.length_cons,List.length_nil]);omega
 obtain ⟨g42,h⟩:=ck_some h;(try simp -implicitDefEqProofs only [go_sem] at g42);try simp -implicitDefEqProofs only [go_sem,g36,g37,g41] at g42
 all_goals cases h;simp -implicitDefEqProofs only [go_sem,i80,c80, *]
@[go_sem] theorem call112:CL 112 [[0,0,3],[1],[0]]:=evCall0 fn112 rfl rfl rfl
theorem e112_1 (rc:l6T→(List Int)→Int→Option (List Int))(hrc:∀(a0:l6T) (a1:List Int) (a2:Int) (r:List Int),rc a0 a1 a2=some r→evFL T 112 [.agg [nI a0.kind_,nI a0.n_,.ts .imm 3 (a0.kids_.map (nl6T .imm))],.ts .imm 1 (a1.map nInt),nI a2] []=some (.sl 0 0 r.length,[some ⟨.arr,1,r.map nInt⟩]))(a1:List Int)(a2:Int)(a0:l6T)(p2:Bool)(o:Bool)(h:m112_1 rc a0 p2=some o):evCL T 0 k112_1 (frOf 145 (upd (upd (upd (upd (upd anyF 1 (.ts .imm 1 (a1.map nInt))) 2 (nI a2)) 3 (.ptr 0 0 0)) 22 (nI a0.kind_)) 27 (.bool p2))) [some ⟨.box,3,[[nI a0.kind_,nI a0.n_,.ts .imm 3 (a0.kids_.map (nl6T .imm))]]⟩]=some (.normal,frOf 145 (upd (upd (upd (upd (upd anyF 1 (.ts .imm 1 (a1.map nInt))) 2 (nI a2)) 3 (.ptr 0 0 0)) 22 (nI a0.kind_)) 27 (.bool o)),[some ⟨.box,3,[[nI a0.kind_,nI a0.n_,.ts .imm 3 (a0.kids_.map (nl6T .imm))]]⟩]):=by
 unfold m112_1 at h
 rcases brx h with ⟨b3,h⟩|⟨b3,h⟩
 all_goals cases h;simp -implicitDefEqProofs only [go_sem,k112_1,b3]
theorem e112_3 (rc:l6T→(List Int)→Int→Option (List Int))(hrc:∀(a0:l6T) (a1:List Int) (a2:Int) (r:List Int),rc a0 a1 a2=some r→evFL T 112 [.agg [nI a0.kind_,nI a0.n_,.ts .imm 3 (a0.kids_.map (nl6T .imm))],.ts .imm 1 (a1.map nInt),nI a2] []=some (.sl 0 0 r.length,[some ⟨.arr,1,r.map nInt⟩]))(a1:List Int)(a2:Int)(a0:l6T)(o:Bool)(h:m112_3 rc a1 a2 a0=some o):evCL T 0 k112_3 (frOf 145 (upd (upd (upd anyF 1 (.ts .imm 1 (a1.map nInt))) 2 (nI a2)) 3 (.ptr 0 0 0))) [some ⟨.box,3,[[nI a0.kind_,nI a0.n_,.ts .imm 3 (a0.kids_.map (nl6T .imm))]]⟩]=some (.normal,frOf 145 (upd (upd anyF 2 (nI a2)) 47 (.bool o)),[]):=by
 unfold m112_3 at h
 rcases brx h with ⟨b8,h⟩|⟨b8,h⟩
 rotate_left
 try simp -implicitDefEqProofs only [go_sem,k112_3,b8]
 rcases brx h with ⟨b9,h⟩|⟨b9,h⟩
 obtain ⟨x10,g12,g13,g14,h⟩:=bidx nInt h;try simp -implicitDefEqProofs only [go_sem] at g13 g14
 all_goals cases h;simp -implicitDefEqProofs only [go_sem,k112_3, *]
@[go_sem] noncomputable def X112_4 (o:List Int):Ex×Fr×St :=
 (.exit 1,frOf 145 (upd anyF 7 (.sl 0 0 o.length)),[some ⟨.arr,1,o.map nInt⟩])
@[go_sem] noncomputable def E112_4 (p36:Int)(r35:List Int)(s:(Int×List Int)):Fr×St:=(frOf 145 (upd (upd (upd (upd anyF 7 (.sl 0 0 s.2.length)) 66 (.sl 1 0 r35.length)) 67 (nI p36)) 68 (nI s.1)),[some ⟨.arr,1,s.2.map nInt⟩,some ⟨.arr,1,r35.map nInt⟩])
theorem e112_4 (rc:l6T→(List Int)→Int→Option (List Int))(hrc:∀(a0:l6T) (a1:List Int) (a2:Int) (r:List Int),rc a0 a1 a2=some r→evFL T 112 [.agg [nI a0.kind_,nI a0.n_,.ts .imm 3 (a0.kids_.map (nl6T .imm))],.ts .imm 1 (a1.map nInt),nI a2] []=some (.sl 0 0 r.length,[some ⟨.arr,1,r.map nInt⟩]))(p36:Int)(r35:List Int):LW T 0 k112_4b (m112_4b rc p36 r35) (E112_4 p36 r35) X112_4:=by
 refine lwk nofun fun s o h=>?_
 unfold m112_4b at h;obtain ⟨s46,s47⟩:=s;replace h:=sel2_some h
 rcases brx h with ⟨b48,h⟩|⟨b48,h⟩
 rotate_left
 obtain ⟨x49,g51,g52,g53,h⟩:=bidx nInt h;obtain ⟨r56,w55,h⟩:=bcall (e80 s47 x49) h;try simp -implicitDefEqProofs only [go_sem] at g52 g53 w55
 all_goals cases h;simp -implicitDefEqProofs only [go_sem,k112_4b, *]
@[go_sem] noncomputable def X112_7 (a1:List Int)(p69:Int)(s108:Int)(a0:l6T)(r68:List Int)(o:List Int):Ex×Fr×St :=
 (.exit 5,frOf 145 (upd (upd (upd (upd (upd (upd anyF 1 (.ts .imm 1 (a1.map nInt))) 3 (.ptr 0 0 0)) 10 (.sl 1 0 o.length)) 85 (.sl 2 0 r68.length)) 86 (nI p69)) 87 (nI s108)),[some ⟨.box,3,[[nI a0.kind_,nI a0.n_,.ts .imm 3 (a0.kids_.map (nl6T .imm))]]⟩,some ⟨.arr,1,o.map nInt⟩,some ⟨.arr,1,r68.map nInt⟩])
@[go_sem] noncomputable def E112_7 (a1:List Int)(p69:Int)(s108:Int)(p124:Int)(a0:l6T)(r68:List Int)(r123:List Int)(s:(Int×List Int)):Fr×St:=(frOf 145 (upd (upd (upd (upd (upd (upd (upd (upd (upd anyF 1 (.ts .imm 1 (a1.map nInt))) 3 (.ptr 0 0 0)) 10 (.sl 1 0 s.2.length)) 85 (.sl 2 0 r68.length)) 86 (nI p69)) 87 (nI s108)) 97 (.sl 3 0 r123.length)) 98 (nI p124)) 99 (nI s.1)),[some ⟨.box,3,[[nI a0.kind_,nI a0.n_,.ts .imm 3 (a0.kids_.map (nl6T .imm))]]⟩,some ⟨.arr,1,s.2.map nInt⟩,some ⟨.arr,1,r68.map nInt⟩,some ⟨.arr,1,r123.map nInt⟩])
theorem e112_7 (rc:l6T→(List Int)→Int→Option (List Int))(hrc:∀(a0:l6T) (a1:List Int) (a2:Int) (r:List Int),rc a0 a1 a2=some r→evFL T 112 [.agg [nI a0.kind_,nI a0.n_,.ts .imm 3 (a0.kids_.map (nl6T .imm))],.ts .imm 1 (a1.map nInt),nI a2] []=some (.sl 0 0 r.length,[some ⟨.arr,1,r.map nInt⟩]))(a1:List Int)(p69:Int)(s108:Int)(p124:Int)(a0:l6T)(r68:List Int)(r123:List Int):LW T 0 k112_7b (m112_7b rc p124 r123) (E112_7 a1 p69 s108 p124 a0 r68 r123) (X112_7 a1 p69 s108 a0 r68):=by
 refine lwk nofun fun s o h=>?_
 unfold m112_7b at h;obtain ⟨s134,s135⟩:=s;replace h:=sel2_some h
 rcases brx h with ⟨b136,h⟩|⟨b136,h⟩
 rotate_left
 obtain ⟨x137,g139,g140,g141,h⟩:=bidx nInt h;obtain ⟨r144,w143,h⟩:=bcall (e80 s135 x137) h;try simp -implicitDefEqProofs only [go_sem] at g140 g141 w143
 all_goals cases h;simp -implicitDefEqProofs only [go_sem,k112_7b, *]
@[go_sem] noncomputable def X112_5 (o:List Int):Ex×Fr×St :=
 (.exit 3,frOf 145 (upd anyF 10 (.sl 0 0 o.length)),[some ⟨.arr,1,o.map nInt⟩])
@[go_sem] noncomputable def E112_5 (a1:List Int)(p69:Int)(a0:l6T)(r68:List Int)(s:(Int×List Int)):Fr×St:=(frOf 145 (upd (upd (upd (upd (upd (upd anyF 1 (.ts .imm 1 (a1.map nInt))) 3 (.ptr 0 0 0)) 10 (.sl 1 0 s.2.length)) 85 (.sl 2 0 r68.length)) 86 (nI p69)) 87 (nI s.1)),[some ⟨.box,3,[[nI a0.kind_,nI a0.n_,.ts .imm 3 (a0.kids_.map (nl6T .imm))]]⟩,some ⟨.arr,1,s.2.map nInt⟩,some ⟨.arr,1,r68.map nInt⟩])
theorem e112_5 (rc:l6T→(List Int)→Int→Option (List Int))(hrc:∀(a0:l6T) (a1:List Int) (a2:Int) (r:List Int),rc a0 a1 a2=some r→evFL T 112 [.agg [nI a0.kind_,nI a0.n_,.ts .imm 3 (a0.kids_.map (nl6T .imm))],.ts .imm 1 (a1.map nInt),nI a2] []=some (.sl 0 0 r.length,[some ⟨.arr,1,r.map nInt⟩]))(a1:List Int)(p69:Int)(a0:l6T)(r68:List Int):LW T 0 k112_5b (m112_5b rc a1 p69 a0 r68) (E112_5 a1 p69 a0 r68) X112_5:=by
 refine lwk nofun fun s o h=>?_
 unfold m112_5b at h;obtain ⟨s108,s109⟩:=s;replace h:=sel2_some h
 rcases brx h with ⟨b110,h⟩|⟨b110,h⟩
 rotate_left
 obtain ⟨x111,g113,g114,g115,h⟩:=bidx nInt h;obtain ⟨x116,g118,g119,g120,h⟩:=bidx (nl6T .imm) h;obtain ⟨r123,w122,h⟩:=bcall (hrc x116 a1 x111) h;obtain ⟨v147,w146,h⟩:=bcall (e112_7 rc hrc a1 p69 s108 (↑r123.length:Int) a0 r68 r123 (0,s109)) h;(try simp -implicitDefEqProofs only [go_sem] at g114 g115 g119 g120 w122);try simp -implicitDefEqProofs only [go_sem] at w146
 all_goals cases h;simp -implicitDefEqProofs only [go_sem,k112_5b, *]
@[go_sem] noncomputable def X112_14 (a1:List Int)(p240:Int)(p241:Int)(s280:Int)(a0:l6T)(s238:List Int)(o:List Int):Ex×Fr×St :=
 (.exit 11,frOf 145 (upd (upd (upd (upd (upd (upd (upd anyF 1 (.ts .imm 1 (a1.map nInt))) 3 (.ptr 0 0 0)) 15 (.sl 1 0 o.length)) 16 (nI p240)) 117 (.sl 2 0 s238.length)) 118 (nI p241)) 119 (nI s280)),[some ⟨.box,3,[[nI a0.kind_,nI a0.n_,.ts .imm 3 (a0.kids_.map (nl6T .imm))]]⟩,some ⟨.arr,1,o.map nInt⟩,some ⟨.arr,1,s238.map nInt⟩])
@[go_sem] noncomputable def E112_14 (a1:List Int)(p240:Int)(p241:Int)(s280:Int)(p296:Int)(a0:l6T)(s238:List Int)(r295:List Int)(s:(Int×List Int)):Fr×St:=(frOf 145 (upd (upd (upd (upd (upd (upd (upd (upd (upd (upd anyF 1 (.ts .imm 1 (a1.map nInt))) 3 (.ptr 0 0 0)) 15 (.sl 1 0 s.2.length)) 16 (nI p240)) 117 (.sl 2 0 s238.length)) 118 (nI p241)) 119 (nI s280)) 129 (.sl 3 0 r295.length)) 130 (nI p296)) 131 (nI s.1)),[some ⟨.box,3,[[nI a0.kind_,nI a0.n_,.ts .imm 3 (a0.kids_.map (nl6T .imm))]]⟩,some ⟨.arr,1,s.2.map nInt⟩,some ⟨.arr,1,s238.map nInt⟩,some ⟨.arr,1,r295.map nInt⟩])
theorem e112_14 (rc:l6T→(List Int)→Int→Option (List Int))(hrc:∀(a0:l6T) (a1:List Int) (a2:Int) (r:List Int),rc a0 a1 a2=some r→evFL T 112 [.agg [nI a0.kind_,nI a0.n_,.ts .imm 3 (a0.kids_.map (nl6T .imm))],.ts .imm 1 (a1.map nInt),nI a2] []=some (.sl 0 0 r.length,[some ⟨.arr,1,r.map nInt⟩]))(a1:List Int)(p240:Int)(p241:Int)(s280:Int)(p296:Int)(a0:l6T)(s238:List Int)(r295:List Int):LW T 0 k112_14b (m112_14b rc p296 r295) (E112_14 a1 p240 p241 s280 p296 a0 s238 r295) (X112_14 a1 p240 p241 s280 a0 s238):=by
 refine lwk nofun fun s o h=>?_
 unfold m112_14b at h;obtain ⟨s306,s307⟩:=s;replace h:=sel2_some h
 rcases brx h with ⟨b308,h⟩|⟨b308,h⟩
 rotate_left
 obtain ⟨x309,g311,g312,g313,h⟩:=bidx nInt h;obtain ⟨r316,w315,h⟩:=bcall (e80 s307 x309) h;try simp -implicitDefEqProofs only [go_sem] at g312 g313 w315
 all_goals cases h;simp -implicitDefEqProofs only [go_sem,k112_14b, *]
@[go_sem] noncomputable def X112_12 (a1:List Int)(p240:Int)(a0:l6T)(o:List Int):Ex×Fr×St :=
 (.exit 9,frOf 145 (upd (upd (upd (upd anyF 1 (.ts .imm 1 (a1.map nInt))) 3 (.ptr 0 0 0)) 15 (.sl 1 0 o.length)) 16 (nI p240)),[some ⟨.box,3,[[nI a0.kind_,nI a0.n_,.ts .imm 3 (a0.kids_.map (nl6T .imm))]]⟩,some ⟨.arr,1,o.map nInt⟩])
@[go_sem] noncomputable def E112_12 (a1:List Int)(p240:Int)(p241:Int)(a0:l6T)(s238:List Int)(s:(Int×List Int)):Fr×St:=(frOf 145 (upd (upd (upd (upd (upd (upd (upd anyF 1 (.ts .imm 1 (a1.map nInt))) 3 (.ptr 0 0 0)) 15 (.sl 1 0 s.2.length)) 16 (nI p240)) 117 (.sl 2 0 s238.length)) 118 (nI p241)) 119 (nI s.1)),[some ⟨.box,3,[[nI a0.kind_,nI a0.n_,.ts .imm 3 (a0.kids_.map (nl6T .imm))]]⟩,some ⟨.arr,1,s.2.map nInt⟩,some ⟨.arr,1,s238.map nInt⟩])
theorem e112_12 (rc:l6T→(List Int)→Int→Option (List Int))(hrc:∀(a0:l6T) (a1:List Int) (a2:Int) (r:List Int),rc a0 a1 a2=some r→evFL T 112 [.agg [nI a0.kind_,nI a0.n_,.ts .imm 3 (a0.kids_.map (nl6T .imm))],.ts .imm 1 (a1.map nInt),nI a2] []=some (.sl 0 0 r.length,[some ⟨.arr,1,r.map nInt⟩]))(a1:List Int)(p240:Int)(p241:Int)(a0:l6T)(s238:List Int):LW T 0 k112_12b (m112_12b rc a1 p241 a0 s238) (E112_12 a1 p240 p241 a0 s238) (X112_12 a1 p240 a0):=by
 refine lwk nofun fun s o h=>?_
 unfold m112_12b at h;obtain ⟨s280,s281⟩:=s;replace h:=sel2_some h
 rcases brx h with ⟨b282,h⟩|⟨b282,h⟩
 rotate_left
 obtain ⟨x283,g285,g286,g287,h⟩:=bidx nInt h;obtain ⟨x288,g290,g291,g292,h⟩:=bidx (nl6T .imm) h;obtain ⟨r295,w294,h⟩:=bcall (hrc x288 a1 x283) h;obtain ⟨v319,w318,h⟩:=bcall (e112_14 rc hrc a1 p240 p241 s280 (↑r295.length:Int) a0 s238 r295 (0,s281)) h;(try simp -implicitDefEqProofs only [go_sem] at g286 g287 g291 g292 w294);try simp -implicitDefEqProofs only [go_sem] at w318
 all_goals cases h;simp -implicitDefEqProofs only [go_sem,k112_12b, *]
@[go_sem] noncomputable def X112_8 (o:List Int):Ex×Fr×St :=
 (.ret,frOf 145 (upd anyF 6 (.sl 0 0 o.length)),[some ⟨.arr,1,o.map nInt⟩])
@[go_sem] noncomputable def E112_8 (a1:List Int)(a0:l6T)(s:List Int):Fr×St:=(frOf 145 (upd (upd (upd anyF 1 (.ts .imm 1 (a1.map nInt))) 3 (.ptr 0 0 0)) 15 (.sl 1 0 s.length)),[some ⟨.box,3,[[nI a0.kind_,nI a0.n_,.ts .imm 3 (a0.kids_.map (nl6T .imm))]]⟩,some ⟨.arr,1,s.map nInt⟩])
theorem e112_8 (rc:l6T→(List Int)→Int→Option (List Int))(hrc:∀(a0:l6T) (a1:List Int) (a2:Int) (r:List Int),rc a0 a1 a2=some r→evFL T 112 [.agg [nI a0.kind_,nI a0.n_,.ts .imm 3 (a0.kids_.map (nl6T .imm))],.ts .imm 1 (a1.map nInt),nI a2] []=some (.sl 0 0 r.length,[some ⟨.arr,1,r.map nInt⟩]))(a1:List Int)(a0:l6T):LW T 0 k112_8b (m112_8b rc a1 a0) (E112_8 a1 a0) X112_8:=by
 refine lwk nofun fun s o h=>?_
 unfold m112_8b at h
 revert h
 generalize s=s238;intro h;obtain ⟨g239,h⟩:=ck_some h;obtain ⟨v322,w321,h⟩:=bcall (e112_12 rc hrc a1 (↑s238.length:Int) (↑s238.length:Int) a0 s238 (0,s238)) h;(try simp -implicitDefEqProofs only [go_sem] at g239);try simp -implicitDefEqProofs only [go_sem] at w321
 rcases brx h with ⟨b323,h⟩|⟨b323,h⟩
 all_goals cases h;simp -implicitDefEqProofs only [go_sem,k112_8b,g239,w321,b323]
@[go_sem] noncomputable def X112_2 (o:(Unit ⊕ List Int)):Ex×Fr×St :=
 match o with
 | .inl o=>(.normal,frOf 145 (anyF),[])
 | .inr o=>(.ret,frOf 145 (upd anyF 6 (.sl 0 0 o.length)),[some ⟨.arr,1,o.map nInt⟩])
theorem e112_2 (rc:l6T→(List Int)→Int→Option (List Int))(hrc:∀(a0:l6T) (a1:List Int) (a2:Int) (r:List Int),rc a0 a1 a2=some r→evFL T 112 [.agg [nI a0.kind_,nI a0.n_,.ts .imm 3 (a0.kids_.map (nl6T .imm))],.ts .imm 1 (a1.map nInt),nI a2] []=some (.sl 0 0 r.length,[some ⟨.arr,1,r.map nInt⟩]))(a1:List Int)(a2:Int)(a0:l6T)(v6:Bool)(o:(Unit ⊕ List Int))(h:m112_2 rc a1 a2 a0 v6=some o):evCL T 0 k112_2 (frOf 145 (upd (upd (upd (upd (upd anyF 1 (.ts .imm 1 (a1.map nInt))) 2 (nI a2)) 3 (.ptr 0 0 0)) 22 (nI a0.kind_)) 27 (.bool v6))) [some ⟨.box,3,[[nI a0.kind_,nI a0.n_,.ts .imm 3 (a0.kids_.map (nl6T .imm))]]⟩]=some (X112_2 o):=by
 unfold m112_2 at h
 rcases brx h with ⟨b7,h⟩|⟨b7,h⟩
 try simp -implicitDefEqProofs only [go_sem,k112_2,b7]
 rcases brx h with ⟨b19,h⟩|⟨b19,h⟩
 try simp -implicitDefEqProofs only [go_sem,k112_2,b7,b19]
 rcases brx h with ⟨b60,h⟩|⟨b60,h⟩
 try simp -implicitDefEqProofs only [go_sem,k112_2,b7,b19,b60]
 rcases brx h with ⟨b151,h⟩|⟨b151,h⟩
 rotate_left
 obtain ⟨v326,w325,h⟩:=bcall (e112_8 rc hrc a1 a0 [a2]) h;try simp -implicitDefEqProofs only [go_sem] at w325
 rotate_left
 obtain ⟨x61,g63,g64,g65,h⟩:=bidx (nl6T .imm) h;obtain ⟨r68,w67,h⟩:=bcall (hrc x61 a1 a2) h;obtain ⟨v150,w149,h⟩:=bcall (e112_5 rc hrc a1 (↑r68.length:Int) a0 r68 (0,[])) h;(try simp -implicitDefEqProofs only [go_sem] at g64 g65 w67);try simp -implicitDefEqProofs only [go_sem] at w149
 rotate_left
 obtain ⟨x20,g22,g23,g24,h⟩:=bidx (nl6T .imm) h;obtain ⟨r27,w26,h⟩:=bcall (hrc x20 a1 a2) h;obtain ⟨x28,g30,g31,g32,h⟩:=bidx (nl6T .imm) h;obtain ⟨r35,w34,h⟩:=bcall (hrc x28 a1 a2) h;obtain ⟨v59,w58,h⟩:=bcall (e112_4 rc hrc (↑r35.length:Int) r35 (0,r27)) h;(try simp -implicitDefEqProofs only [go_sem] at g23 g24 w26 g31 g32 w34);try simp -implicitDefEqProofs only [go_sem] at w58
 rotate_left
 obtain ⟨v17,w16,h⟩:=bcall (e112_3 rc hrc a1 a2 a0) h;try simp -implicitDefEqProofs only [go_sem] at w16
 rcases brx h with ⟨b18,h⟩|⟨b18,h⟩
 all_goals cases h;simp -implicitDefEqProofs only [go_sem,k112_2, *]
theorem e112r (rc:l6T→(List Int)→Int→Option (List Int))(hrc:∀(a0:l6T) (a1:List Int) (a2:Int) (r:List Int),rc a0 a1 a2=some r→evFL T 112 [.agg [nI a0.kind_,nI a0.n_,.ts .imm 3 (a0.kids_.map (nl6T .imm))],.ts .imm 1 (a1.map nInt),nI a2] []=some (.sl 0 0 r.length,[some ⟨.arr,1,r.map nInt⟩]))(a0:l6T)(a1:List Int)(a2:Int)(r:List Int)(h:m112r rc a0 a1 a2=some r):evFL T 112 [.agg [nI a0.kind_,nI a0.n_,.ts .imm 3 (a0.kids_.map (nl6T .imm))],.ts .imm 1 (a1.map nInt),nI a2] []=some (.sl 0 0 r.length,[some ⟨.arr,1,r.map nInt⟩]):=by
 unfold m112r at h;rw [ev fn112 rfl]
 rcases brx h with ⟨b1,h⟩|⟨b1,h⟩
 obtain ⟨v6,w5,h⟩:=bcall (e112_1 rc hrc a1 a2 a0 (eqI a0.kind_ 3)) h;(try simp -implicitDefEqProofs only [go_sem] at w5);(try simp -implicitDefEqProofs only [go_sem,i112,c112,b1,w5]);obtain ⟨o,w328,h⟩:=bcall (e112_2 rc hrc a1 a2 a0 v6) h
 rcases o with ⟨⟩|v329
 replace h:=selS_l h;try simp -implicitDefEqProofs only [go_sem] at w328
 rotate_left
 replace h:=selS_r h;try simp -implicitDefEqProofs only [go_sem] at w328
 all_goals cases h;simp -implicitDefEqProofs only [go_sem,i112,c112, *]
theorem e112k:∀(k:Nat) (a0:l6T) (a1:List Int) (a2:Int) (r:List Int) (h:m112k k a0 a1 a2=some r),evFL T 112 [.agg [nI a0.kind_,nI a0.n_,.ts .imm 3 (a0.kids_.map (nl6T .imm))],.ts .imm 1 (a1.map nInt),nI a2] []=some (.sl 0 0 r.length,[some ⟨.arr,1,r.map nInt⟩]):=by
 intro k
 induction k with
 | zero=>intro a0 a1 a2 r h;cases h
 | succ k ih=>intro a0 a1 a2 r h;exact e112r (m112k k) (fun a0 a1 a2 r h=>ih a0 a1 a2 r h) a0 a1 a2 r h
theorem e112 (a0:l6T)(a1:List Int)(a2:Int)(r:List Int)(h:m112 a0 a1 a2=some r):evFL T 112 [.agg [nI a0.kind_,nI a0.n_,.ts .imm 3 (a0.kids_.map (nl6T .imm))],.ts .imm 1 (a1.map nInt),nI a2] []=some (.sl 0 0 r.length,[some ⟨.arr,1,r.map nInt⟩]):=by
 obtain ⟨N,hN⟩:=limO_iff.1 h;exact e112k N a0 a1 a2 r (hN N (Nat.le_refl N))
@[go_sem] theorem call79:CL 79 [[1],[0]]:=evCall0 fn79 rfl rfl rfl
@[go_sem] noncomputable def X79_1 (o:(Unit ⊕ Unit)):Ex×Fr×St :=
 match o with
 | .inl o=>(.exit 0,frOf 17 (anyF),[])
 | .inr o=>(.ret,frOf 17 (upd anyF 4 (.bool true)),[])
@[go_sem] noncomputable def E79_1 (a1:Int)(a0:List Int)(p1:Int)(s:Int):Fr×St:=(frOf 17 (upd (upd (upd (upd anyF 1 (nI a1)) 7 (.ts .imm 1 (a0.map nInt))) 8 (nI p1)) 9 (nI s)),[])
theorem e79_1 (a1:Int)(a0:List Int)(p1:Int):LW T 0 k79_1b (m79_1b a1 a0 p1) (E79_1 a1 a0 p1) X79_1:=by
 refine lwk (by rintro (b | b)<;>nofun) fun s o h=>?_
 unfold m79_1b at h
 revert h
 generalize s=s9;intro h
 rcases brx h with ⟨b10,h⟩|⟨b10,h⟩
 rotate_left
 obtain ⟨x11,g13,g14,g15,h⟩:=bidx nInt h;try simp -implicitDefEqProofs only [go_sem] at g14 g15
 rcases brx h with ⟨b16,h⟩|⟨b16,h⟩
 all_goals cases h;simp -implicitDefEqProofs only [go_sem,k79_1b, *]
theorem e79 (a0:List Int)(a1:Int)(r:Bool)(h:m79 a0 a1=some r):evFL T 79 [.ts .imm 1 (a0.map nInt),nI a1] []=some (.bool r,[]):=by
 unfold m79 at h;rw [ev fn79 rfl];(try simp -implicitDefEqProofs only [go_sem,i79,c79]);obtain ⟨o,w18,h⟩:=bcall (e79_1 a1 a0 (↑a0.length:Int) 0) h
 rcases o with ⟨⟩|⟨⟩
 replace h:=selS_l h;try simp -implicitDefEqProofs only [go_sem] at w18
 rotate_left
 replace h:=selS_r h;try simp -implicitDefEqProofs only [go_sem] at w18
 all_goals cases h;simp -implicitDefEqProofs only [go_sem,i79,c79,w18]
@[go_sem] theorem call78:CL 78 [[2],[1]]:=evCall0 fn78 rfl rfl rfl
theorem e78_1 (a1:List Int)(r4:Bool)(r3:l6T)(o:Bool)(h:m78_1 a1 r4=some o):evCL T 0 k78_1 (frOf 26 (upd (upd (upd anyF 1 (.ts .imm 1 (a1.map nInt))) 6 (.ptr 0 0 0)) 7 (.bool r4))) [some ⟨.box,3,[[nI r3.kind_,nI r3.n_,.sl 1 0 r3.kids_.length]]⟩,some ⟨.arr,3,r3.kids_.map (nl6T .own)⟩]=some (.normal,frOf 26 (upd (upd (upd anyF 1 (.ts .imm 1 (a1.map nInt))) 6 (.ptr 0 0 0)) 19 (.bool o)),[some ⟨.box,3,[[nI r3.kind_,nI r3.n_,.sl 1 0 r3.kids_.length]]⟩,some ⟨.arr,3,r3.kids_.map (nl6T .own)⟩]):=by
 unfold m78_1 at h
 rcases brx h with ⟨b5,h⟩|⟨b5,h⟩
 rotate_left
 obtain ⟨r8,w7,h⟩:=bcall (e111 a1) h;try simp -implicitDefEqProofs only [go_sem] at w7
 all_goals cases h;simp -implicitDefEqProofs only [go_sem,k78_1, *]
theorem e78 (a0:List ReCell)(a1:List Int)(r:(Bool×Bool))(h:m78 a0 a1=some r):evFL T 78 [.ts .imm 2 (a0.map nReC),.ts .imm 1 (a1.map nInt)] []=some (.tup [.bool r.1,.bool r.2],[]):=by
 unfold m78 at h;rw [ev fn78 rfl];obtain ⟨⟨r3,r4⟩,w2,h⟩:=bcall (e109 a0) h;replace h:=sel2_some h;obtain ⟨v11,w10,h⟩:=bcall (e78_1 a1 r4 r3) h;(try simp -implicitDefEqProofs only [go_sem] at w2);try simp -implicitDefEqProofs only [go_sem] at w10
 rcases brx h with ⟨b12,h⟩|⟨b12,h⟩
 obtain ⟨r15,w14,h⟩:=bcall (e112 r3 a1 0) h;obtain ⟨r18,w17,h⟩:=bcall (e79 r15 (↑a1.length:Int)) h;try simp -implicitDefEqProofs only [go_sem] at w14 w17
 all_goals cases h;simp -implicitDefEqProofs only [go_sem,i78,c78, *]
@[go_sem] theorem call50:CL 50 [[4,2,0,2,0],[0,0,0,1,0,0,0,1]]:=evCall0 fn50 rfl rfl rfl
theorem e50_4 (s20:Bool)(a0:Term)(p3:Int)(s21:Int)(a1:Route)(x23:Range)(o:Bool)(h:m50_4 s20 a1 x23=some o):evCL T 0 k50_4 (frOf 68 (upd (upd (upd (upd (upd (upd (upd anyF 2 (.ptr 0 0 0)) 3 (.ptr 1 0 0)) 5 (.bool s20)) 7 (.ptr 2 0 0)) 15 (.ts .imm 4 (a0.ranges.map nRan))) 16 (nI p3)) 17 (nI s21))) [some ⟨.box,5,[(nTer .imm a0)]⟩,some ⟨.box,8,[(nRou .imm a1)]⟩,some ⟨.box,4,[(nRan x23)]⟩]=some (.normal,frOf 68 (upd (upd (upd (upd (upd (upd anyF 2 (.ptr 0 0 0)) 3 (.ptr 1 0 0)) 5 (.bool o)) 15 (.ts .imm 4 (a0.ranges.map nRan))) 16 (nI p3)) 17 (nI s21)),[some ⟨.box,5,[(nTer .imm a0)]⟩,some ⟨.box,8,[(nRou .imm a1)]⟩]):=by
 unfold m50_4 at h
 rcases brx h with ⟨b28,h⟩|⟨b28,h⟩
 obtain ⟨r31,w30,h⟩:=bcall (e77 x23.prefix_ a1.prefix_) h;try simp -implicitDefEqProofs only [go_sem] at w30
 rcases brx h with ⟨b32,h⟩|⟨b32,h⟩
 rotate_left
 obtain ⟨r35,w34,h⟩:=bcall (e72 a1.prefix_.len x23.lo x23.hi) h;try simp -implicitDefEqProofs only [go_sem] at w34
 all_goals cases h;simp -implicitDefEqProofs only [go_sem,k50_4, *]
@[go_sem] noncomputable def X50_2 (a0:Term)(a1:Route)(o:Bool):Ex×Fr×St :=
 (.exit 0,frOf 68 (upd (upd (upd anyF 2 (.ptr 0 0 0)) 3 (.ptr 1 0 0)) 5 (.bool o)),[some ⟨.box,5,[(nTer .imm a0)]⟩,some ⟨.box,8,[(nRou .imm a1)]⟩])
@[go_sem] noncomputable def E50_2 (a0:Term)(p3:Int)(a1:Route)(s:(Bool×Int)):Fr×St:=(frOf 68 (upd (upd (upd (upd (upd (upd anyF 2 (.ptr 0 0 0)) 3 (.ptr 1 0 0)) 5 (.bool s.1)) 15 (.ts .imm 4 (a0.ranges.map nRan))) 16 (nI p3)) 17 (nI s.2)),[some ⟨.box,5,[(nTer .imm a0)]⟩,some ⟨.box,8,[(nRou .imm a1)]⟩])
theorem e50_2 (a0:Term)(p3:Int)(a1:Route):LW T 0 k50_2b (m50_2b a0 p3 a1) (E50_2 a0 p3 a1) (X50_2 a0 a1):=by
 refine lwk nofun fun s o h=>?_
 unfold m50_2b at h;obtain ⟨s20,s21⟩:=s;replace h:=sel2_some h
 rcases brx h with ⟨b22,h⟩|⟨b22,h⟩
 rotate_left
 obtain ⟨x23,g25,g26,g27,h⟩:=bidx nRan h;obtain ⟨v38,w37,h⟩:=bcall (e50_4 s20 a0 p3 s21 a1 x23) h;(try simp -implicitDefEqProofs only [go_sem] at g26 g27);try simp -implicitDefEqProofs only [go_sem] at w37
 all_goals cases h;simp -implicitDefEqProofs only [go_sem,k50_2b, *]
@[go_sem] noncomputable def X50_1 (a0:Term)(a1:Route)(o:(Unit ⊕ Unit)):Ex×Fr×St :=
 match o with
 | .inl o=>(.normal,frOf 68 (upd (upd anyF 2 (.ptr 0 0 0)) 3 (.ptr 1 0 0)),[some ⟨.box,5,[(nTer .imm a0)]⟩,some ⟨.box,8,[(nRou .imm a1)]⟩])
 | .inr o=>(.ret,frOf 68 (upd anyF 4 (.bool false)),[])
theorem e50_1 (p1:Bool)(a0:Term)(a1:Route)(o:(Unit ⊕ Unit))(h:m50_1 p1 a0 a1=some o):evCL T 0 k50_1 (frOf 68 (upd (upd (upd anyF 2 (.ptr 0 0 0)) 3 (.ptr 1 0 0)) 13 (.bool p1))) [some ⟨.box,5,[(nTer .imm a0)]⟩,some ⟨.box,8,[(nRou .imm a1)]⟩]=some (X50_1 a0 a1 o):=by
 unfold m50_1 at h
 rcases brx h with ⟨b2,h⟩|⟨b2,h⟩
 rotate_left
 obtain ⟨v41,w40,h⟩:=bcall (e50_2 a0 (↑a0.ranges.length:Int) a1 (false,0)) h;try simp -implicitDefEqProofs only [go_sem] at w40
 rcases brx h with ⟨b42,h⟩|⟨b42,h⟩
 all_goals cases h;simp -implicitDefEqProofs only [go_sem,k50_1, *]
@[go_sem] noncomputable def X50_5 (a0:Term)(a1:Route)(o:(Unit ⊕ Unit)):Ex×Fr×St :=
 match o with
 | .inl o=>(.normal,frOf 68 (upd (upd anyF 2 (.ptr 0 0 0)) 3 (.ptr 1 0 0)),[some ⟨.box,5,[(nTer .imm a0)]⟩,some ⟨.box,8,[(nRou .imm a1)]⟩])
 | .inr o=>(.ret,frOf 68 (upd anyF 4 (.bool false)),[])
theorem e50_5 (p45:Bool)(a0:Term)(a1:Route)(o:(Unit ⊕ Unit))(h:m50_5 p45 a0 a1=some o):evCL T 0 k50_5 (frOf 68 (upd (upd (upd anyF 2 (.ptr 0 0 0)) 3 (.ptr 1 0 0)) 45 (.bool p45))) [some ⟨.box,5,[(nTer .imm a0)]⟩,some ⟨.box,8,[(nRou .imm a1)]⟩]=some (X50_5 a0 a1 o):=by
 unfold m50_5 at h
 rcases brx h with ⟨b46,h⟩|⟨b46,h⟩
 rotate_left
 obtain ⟨⟨r49,r50⟩,w48,h⟩:=bcall (e78 a0.path a1.attrs.path) h;replace h:=sel2_some h;try simp -implicitDefEqProofs only [go_sem] at w48
 rcases brx h with ⟨b51,h⟩|⟨b51,h⟩
 all_goals cases h;simp -implicitDefEqProofs only [go_sem,k50_5, *]
theorem e50_6 (a0:Term)(a1:Route)(o:Bool)(h:m50_6 a0 a1=some o):evCL T 0 k50_6 (frOf 68 (upd (upd anyF 2 (.ptr 0 0 0)) 3 (.ptr 1 0 0))) [some ⟨.box,5,[(nTer .imm a0)]⟩,some ⟨.box,8,[(nRou .imm a1)]⟩]=some (.normal,frOf 68 (upd anyF 4 (.bool o)),[]):=by
 unfold m50_6 at h
 rcases brx h with ⟨b54,h⟩|⟨b54,h⟩
 obtain ⟨r57,w56,h⟩:=bcall (e79 a1.attrs.comms a0.comm) h;try simp -implicitDefEqProofs only [go_sem] at w56
 all_goals cases h;simp -implicitDefEqProofs only [go_sem,k50_6, *]
theorem e50 (a0:Term)(a1:Route)(r:Bool)(h:m50 a0 a1=some r):evFL T 50 [.agg (nTer .imm a0),.agg (nRou .imm a1)] []=some (.bool r,[]):=by
 unfold m50 at h;rw [ev fn50 rfl];(try simp -implicitDefEqProofs only [go_sem,i50,c50]);obtain ⟨o,w44,h⟩:=bcall (e50_1 (ltI 0 (↑a0.ranges.length:Int)) a0 a1) h
 rcases o with ⟨⟩|⟨⟩
 replace h:=selS_l h;(try simp -implicitDefEqProofs only [go_sem] at w44);(try simp -implicitDefEqProofs only [go_sem,i50,c50,w44]);obtain ⟨o,w53,h⟩:=bcall (e50_5 (ltI 0 (↑a0.path.length:Int)) a0 a1) h
 rcases o with ⟨⟩|⟨⟩
 replace h:=selS_l h;simp -implicitDefEqProofs only [go_sem] at w53;obtain ⟨v60,w59,h⟩:=bcall (e50_6 a0 a1) h;(try simp -implicitDefEqProofs only [go_sem] at w53);try simp -implicitDefEqProofs only [go_sem] at w59
 rotate_left
 replace h:=selS_r h;try simp -implicitDefEqProofs only [go_sem] at w53
 rotate_left
 replace h:=selS_r h;try simp -implicitDefEqProofs only [go_sem] at w44
 all_goals cases h;simp -implicitDefEqProofs only [go_sem,i50,c50, *]
@[go_sem] theorem call51:CL 51 [[0,0],[0,0,0,1,0,0,0,1]]:=evCall0 fn51 rfl rfl rfl
theorem e51_7 (x31:Int)(a1:Route)(p16:Int)(s28:Int)(p36:Bool)(a0:Acn)(p5:Prefix)(r3:Attrs)(s29:List Int)(o:List Int)(h:m51_7 x31 p36 s29=some o):evCL T 0 k51_7 (frOf 73 (upd (upd (upd (upd (upd (upd (upd (upd (upd anyF 2 (.ptr 0 0 0)) 4 (.ptr 1 0 0)) 5 (.ptr 4 0 0)) 6 (.sl 7 0 s29.length)) 8 (nI x31)) 43 (.ts .imm 1 (a1.attrs.comms.map nInt))) 44 (nI p16)) 45 (nI s28)) 52 (.bool p36))) [some ⟨.box,2,[[nI a0.kind,nI a0.n]]⟩,some ⟨.box,8,[[nI p5.addr,nI p5.len,nI 0,.sl 2 0 0,nI 0,nI 0,nI 0,.sl 3 0 0]]⟩,some ⟨.arr,1,[]⟩,some ⟨.arr,1,[]⟩,some ⟨.box,8,[[nI a1.prefix_.addr,nI a1.prefix_.len,nI r3.origin,.sl 5 0 r3.path.length,nI r3.next,nI r3.med,nI r3.pref,.sl 6 0 r3.comms.length]]⟩,some ⟨.arr,1,r3.path.map nInt⟩,some ⟨.arr,1,r3.comms.map nInt⟩,some ⟨.arr,1,s29.map nInt⟩]=some (.normal,frOf 73 (upd (upd (upd (upd (upd (upd (upd anyF 2 (.ptr 0 0 0)) 4 (.ptr 1 0 0)) 5 (.ptr 4 0 0)) 6 (.sl 7 0 o.length)) 43 (.ts .imm 1 (a1.attrs.comms.map nInt))) 44 (nI p16)) 45 (nI s28)),[some ⟨.box,2,[[nI a0.kind,nI a0.n]]⟩,some ⟨.box,8,[[nI p5.addr,nI p5.len,nI 0,.sl 2 0 0,nI 0,nI 0,nI 0,.sl 3 0 0]]⟩,some ⟨.arr,1,[]⟩,some ⟨.arr,1,[]⟩,some ⟨.box,8,[[nI a1.prefix_.addr,nI a1.prefix_.len,nI r3.origin,.sl 5 0 r3.path.length,nI r3.next,nI r3.med,nI r3.pref,.sl 6 0 r3.comms.length]]⟩,some ⟨.arr,1,r3.path.map nInt⟩,some ⟨.arr,1,r3.comms.map nInt⟩,some ⟨.arr,1,o.map nInt⟩]):=by
 unfold m51_7 at h
 rcases brx h with ⟨b37,h⟩|⟨b37,h⟩
 rotate_left
 obtain ⟨g38,h⟩:=ck_some h;try simp -implicitDefEqProofs only [go_sem] at g38
 all_goals cases h;simp -implicitDefEqProofs only [go_sem,k51_7, *]
@[go_sem] noncomputable def X51_5 (a1:Route)(p5:Prefix)(r3:Attrs)(o:List Int):Ex×Fr×St :=
 (.exit 1,frOf 73 (upd (upd (upd anyF 4 (.ptr 0 0 0)) 5 (.ptr 3 0 0)) 6 (.sl 6 0 o.length)),[some ⟨.box,8,[[nI p5.addr,nI p5.len,nI 0,.sl 1 0 0,nI 0,nI 0,nI 0,.sl 2 0 0]]⟩,some ⟨.arr,1,[]⟩,some ⟨.arr,1,[]⟩,some ⟨.box,8,[[nI a1.prefix_.addr,nI a1.prefix_.len,nI r3.origin,.sl 4 0 r3.path.length,nI r3.next,nI r3.med,nI r3.pref,.sl 5 0 r3.comms.length]]⟩,some ⟨.arr,1,r3.path.map nInt⟩,some ⟨.arr,1,r3.comms.map nInt⟩,some ⟨.arr,1,o.map nInt⟩])
@[go_sem] noncomputable def E51_5 (a1:Route)(p16:Int)(a0:Acn)(p5:Prefix)(r3:Attrs)(s:(Int×List Int)):Fr×St:=(frOf 73 (upd (upd (upd (upd (upd (upd (upd anyF 2 (.ptr 0 0 0)) 4 (.ptr 1 0 0)) 5 (.ptr 4 0 0)) 6 (.sl 7 0 s.2.length)) 43 (.ts .imm 1 (a1.attrs.comms.map nInt))) 44 (nI p16)) 45 (nI s.1)),[some ⟨.box,2,[[nI a0.kind,nI a0.n]]⟩,some ⟨.box,8,[[nI p5.addr,nI p5.len,nI 0,.sl 2 0 0,nI 0,nI 0,nI 0,.sl 3 0 0]]⟩,some ⟨.arr,1,[]⟩,some ⟨.arr,1,[]⟩,some ⟨.box,8,[[nI a1.prefix_.addr,nI a1.prefix_.len,nI r3.origin,.sl 5 0 r3.path.length,nI r3.next,nI r3.med,nI r3.pref,.sl 6 0 r3.comms.length]]⟩,some ⟨.arr,1,r3.path.map nInt⟩,some ⟨.arr,1,r3.comms.map nInt⟩,some ⟨.arr,1,s.2.map nInt⟩])
theorem e51_5 (a1:Route)(p16:Int)(a0:Acn)(p5:Prefix)(r3:Attrs):LW T 0 k51_5b (m51_5b a1 p16 a0) (E51_5 a1 p16 a0 p5 r3) (X51_5 a1 p5 r3):=by
 refine lwk nofun fun s o h=>?_
 unfold m51_5b at h;obtain ⟨s28,s29⟩:=s;replace h:=sel2_some h
 rcases brx h with ⟨b30,h⟩|⟨b30,h⟩
 rotate_left
 obtain ⟨x31,g33,g34,g35,h⟩:=bidx nInt h;obtain ⟨v41,w40,h⟩:=bcall (e51_7 x31 a1 p16 s28 (!(eqI x31 a0.n)) a0 p5 r3 s29) h;(try simp -implicitDefEqProofs only [go_sem] at g34 g35);try simp -implicitDefEqProofs only [go_sem] at w40
 all_goals cases h;simp -implicitDefEqProofs only [go_sem,k51_5b, *]
theorem e51_8 (p45:Bool)(a0:Acn)(a1:Route)(p5:Prefix)(r3:Attrs)(o:List Int)(h:m51_8 p45 a0 a1 r3=some o):evCL T 0 k51_8 (frOf 73 (upd (upd (upd (upd (upd anyF 2 (.ptr 0 0 0)) 3 (.ptr 1 0 0)) 4 (.ptr 2 0 0)) 5 (.ptr 5 0 0)) 61 (.bool p45))) [some ⟨.box,2,[[nI a0.kind,nI a0.n]]⟩,some ⟨.box,8,[(nRou .imm a1)]⟩,some ⟨.box,8,[[nI p5.addr,nI p5.len,nI 0,.sl 3 0 0,nI 0,nI 0,nI 0,.sl 4 0 0]]⟩,some ⟨.arr,1,[]⟩,some ⟨.arr,1,[]⟩,some ⟨.box,8,[[nI a1.prefix_.addr,nI a1.prefix_.len,nI r3.origin,.sl 6 0 r3.path.length,nI r3.next,nI r3.med,nI r3.pref,.sl 7 0 r3.comms.length]]⟩,some ⟨.arr,1,r3.path.map nInt⟩,some ⟨.arr,1,r3.comms.map nInt⟩]=some (.normal,frOf 73 (upd (upd anyF 4 (.ptr 0 0 0)) 5 (.ptr 3 0 0)),[some ⟨.box,8,[[nI p5.addr,nI p5.len,nI 0,.sl 1 0 0,nI 0,nI 0,nI 0,.sl 2 0 0]]⟩,some ⟨.arr,1,[]⟩,some ⟨.arr,1,[]⟩,some ⟨.box,8,[[nI a1.prefix_.addr,nI a1.prefix_.len,nI r3.origin,.sl 4 0 o.length,nI r3.next,nI r3.med,nI r3.pref,.sl 5 0 r3.comms.length]]⟩,some ⟨.arr,1,o.map nInt⟩,some ⟨.arr,1,r3.comms.map nInt⟩]):=by
 unfold m51_8 at h
 rcases brx h with ⟨b46,h⟩|⟨b46,h⟩
 rotate_left
 obtain ⟨g47,h⟩:=ck_some h;try simp -implicitDefEqProofs only [go_sem] at g47
 all_goals cases h;simp -implicitDefEqProofs only [go_sem,k51_8, *]
theorem e51_4 (a0:Acn)(p14:Bool)(a1:Route)(p5:Prefix)(r3:Attrs)(o:(List Int×List Int))(h:m51_4 a0 p14 a1 r3=some o):evCL T 0 k51_4 (frOf 73 (upd (upd (upd (upd (upd (upd anyF 2 (.ptr 0 0 0)) 3 (.ptr 1 0 0)) 4 (.ptr 2 0 0)) 5 (.ptr 5 0 0)) 16 (nI a0.kind)) 39 (.bool p14))) [some ⟨.box,2,[[nI a0.kind,nI a0.n]]⟩,some ⟨.box,8,[(nRou .imm a1)]⟩,some ⟨.box,8,[[nI p5.addr,nI p5.len,nI 0,.sl 3 0 0,nI 0,nI 0,nI 0,.sl 4 0 0]]⟩,some ⟨.arr,1,[]⟩,some ⟨.arr,1,[]⟩,some ⟨.box,8,[[nI a1.prefix_.addr,nI a1.prefix_.len,nI r3.origin,.sl 6 0 r3.path.length,nI r3.next,nI r3.med,nI r3.pref,.sl 7 0 r3.comms.length]]⟩,some ⟨.arr,1,r3.path.map nInt⟩,some ⟨.arr,1,r3.comms.map nInt⟩]=some (.normal,frOf 73 (upd (upd anyF 4 (.ptr 0 0 0)) 5 (.ptr 3 0 0)),[some ⟨.box,8,[[nI p5.addr,nI p5.len,nI 0,.sl 1 0 0,nI 0,nI 0,nI 0,.sl 2 0 0]]⟩,some ⟨.arr,1,[]⟩,some ⟨.arr,1,[]⟩,some ⟨.box,8,[[nI a1.prefix_.addr,nI a1.prefix_.len,nI r3.origin,.sl 4 0 o.1.length,nI r3.next,nI r3.med,nI r3.pref,.sl 5 0 o.2.length]]⟩,some ⟨.arr,1,o.1.map nInt⟩,some ⟨.arr,1,o.2.map nInt⟩]):=by
 unfold m51_4 at h
 rcases brx h with ⟨b15,h⟩|⟨b15,h⟩
 obtain ⟨v50,w49,h⟩:=bcall (e51_8 (eqI a0.kind 5) a0 a1 p5 r3) h;try simp -implicitDefEqProofs only [go_sem] at w49
 rotate_left
 obtain ⟨v44,w43,h⟩:=bcall (e51_5 a1 (↑a1.attrs.comms.length:Int) a0 p5 r3 (0,[])) h;try simp -implicitDefEqProofs only [go_sem] at w43
 all_goals cases h;simp -implicitDefEqProofs only [go_sem,k51_4, *]
theorem e51_3 (a0:Acn)(p9:Bool)(a1:Route)(p5:Prefix)(r3:Attrs)(o:(List Int×List Int))(h:m51_3 a0 p9 a1 r3=some o):evCL T 0 k51_3 (frOf 73 (upd (upd (upd (upd (upd (upd anyF 2 (.ptr 0 0 0)) 3 (.ptr 1 0 0)) 4 (.ptr 2 0 0)) 5 (.ptr 5 0 0)) 16 (nI a0.kind)) 29 (.bool p9))) [some ⟨.box,2,[[nI a0.kind,nI a0.n]]⟩,some ⟨.box,8,[(nRou .imm a1)]⟩,some ⟨.box,8,[[nI p5.addr,nI p5.len,nI 0,.sl 3 0 0,nI 0,nI 0,nI 0,.sl 4 0 0]]⟩,some ⟨.arr,1,[]⟩,some ⟨.arr,1,[]⟩,some ⟨.box,8,[[nI a1.prefix_.addr,nI a1.prefix_.len,nI r3.origin,.sl 6 0 r3.path.length,nI r3.next,nI r3.med,nI r3.pref,.sl 7 0 r3.comms.length]]⟩,some ⟨.arr,1,r3.path.map nInt⟩,some ⟨.arr,1,r3.comms.map nInt⟩]=some (.normal,frOf 73 (upd (upd anyF 4 (.ptr 0 0 0)) 5 (.ptr 3 0 0)),[some ⟨.box,8,[[nI p5.addr,nI p5.len,nI 0,.sl 1 0 0,nI 0,nI 0,nI 0,.sl 2 0 0]]⟩,some ⟨.arr,1,[]⟩,some ⟨.arr,1,[]⟩,some ⟨.box,8,[[nI a1.prefix_.addr,nI a1.prefix_.len,nI r3.origin,.sl 4 0 o.1.length,nI r3.next,nI r3.med,nI r3.pref,.sl 5 0 o.2.length]]⟩,some ⟨.arr,1,o.1.map nInt⟩,some ⟨.arr,1,o.2.map nInt⟩]):=by
 unfold m51_3 at h
 rcases brx h with ⟨b10,h⟩|⟨b10,h⟩
 obtain ⟨⟨v53,v54⟩,w52,h⟩:=bcall (e51_4 a0 (eqI a0.kind 4) a1 p5 r3) h;replace h:=sel2_some h;try simp -implicitDefEqProofs only [go_sem] at w52
 rotate_left
 obtain ⟨r13,w12,h⟩:=bcall (e80 r3.comms a0.n) h;try simp -implicitDefEqProofs only [go_sem] at w12
 all_goals cases h;simp -implicitDefEqProofs only [go_sem,k51_3, *]
theorem e51_2 (a0:Acn)(p7:Bool)(a1:Route)(p5:Prefix)(r3:Attrs)(o:(Int×List Int×List Int))(h:m51_2 a0 p7 a1 r3=some o):evCL T 0 k51_2 (frOf 73 (upd (upd (upd (upd (upd (upd anyF 2 (.ptr 0 0 0)) 3 (.ptr 1 0 0)) 4 (.ptr 2 0 0)) 5 (.ptr 5 0 0)) 16 (nI a0.kind)) 23 (.bool p7))) [some ⟨.box,2,[[nI a0.kind,nI a0.n]]⟩,some ⟨.box,8,[(nRou .imm a1)]⟩,some ⟨.box,8,[[nI p5.addr,nI p5.len,nI 0,.sl 3 0 0,nI 0,nI 0,nI 0,.sl 4 0 0]]⟩,some ⟨.arr,1,[]⟩,some ⟨.arr,1,[]⟩,some ⟨.box,8,[[nI a1.prefix_.addr,nI a1.prefix_.len,nI r3.origin,.sl 6 0 r3.path.length,nI r3.next,nI r3.med,nI r3.pref,.sl 7 0 r3.comms.length]]⟩,some ⟨.arr,1,r3.path.map nInt⟩,some ⟨.arr,1,r3.comms.map nInt⟩]=some (.normal,frOf 73 (upd (upd anyF 4 (.ptr 0 0 0)) 5 (.ptr 3 0 0)),[some ⟨.box,8,[[nI p5.addr,nI p5.len,nI 0,.sl 1 0 0,nI 0,nI 0,nI 0,.sl 2 0 0]]⟩,some ⟨.arr,1,[]⟩,some ⟨.arr,1,[]⟩,some ⟨.box,8,[[nI a1.prefix_.addr,nI a1.prefix_.len,nI r3.origin,.sl 4 0 o.2.1.length,nI r3.next,nI o.1,nI r3.pref,.sl 5 0 o.2.2.length]]⟩,some ⟨.arr,1,o.2.1.map nInt⟩,some ⟨.arr,1,o.2.2.map nInt⟩]):=by
 unfold m51_2 at h
 rcases brx h with ⟨b8,h⟩|⟨b8,h⟩
 obtain ⟨⟨v57,v58⟩,w56,h⟩:=bcall (e51_3 a0 (eqI a0.kind 3) a1 p5 r3) h;replace h:=sel2_some h;try simp -implicitDefEqProofs only [go_sem] at w56
 all_goals cases h;simp -implicitDefEqProofs only [go_sem,k51_2, *]
theorem e51_1 (a0:Acn)(p4:Bool)(a1:Route)(p5:Prefix)(r3:Attrs)(o:(Int×Int×List Int×List Int))(h:m51_1 a0 p4 a1 r3=some o):evCL T 0 k51_1 (frOf 73 (upd (upd (upd (upd (upd (upd anyF 2 (.ptr 0 0 0)) 3 (.ptr 1 0 0)) 4 (.ptr 2 0 0)) 5 (.ptr 5 0 0)) 16 (nI a0.kind)) 17 (.bool p4))) [some ⟨.box,2,[[nI a0.kind,nI a0.n]]⟩,some ⟨.box,8,[(nRou .imm a1)]⟩,some ⟨.box,8,[[nI p5.addr,nI p5.len,nI 0,.sl 3 0 0,nI 0,nI 0,nI 0,.sl 4 0 0]]⟩,some ⟨.arr,1,[]⟩,some ⟨.arr,1,[]⟩,some ⟨.box,8,[[nI a1.prefix_.addr,nI a1.prefix_.len,nI r3.origin,.sl 6 0 r3.path.length,nI r3.next,nI r3.med,nI r3.pref,.sl 7 0 r3.comms.length]]⟩,some ⟨.arr,1,r3.path.map nInt⟩,some ⟨.arr,1,r3.comms.map nInt⟩]=some (.normal,frOf 73 (upd (upd anyF 4 (.ptr 0 0 0)) 5 (.ptr 3 0 0)),[some ⟨.box,8,[[nI p5.addr,nI p5.len,nI 0,.sl 1 0 0,nI 0,nI 0,nI 0,.sl 2 0 0]]⟩,some ⟨.arr,1,[]⟩,some ⟨.arr,1,[]⟩,some ⟨.box,8,[[nI a1.prefix_.addr,nI a1.prefix_.len,nI r3.origin,.sl 4 0 o.2.2.1.length,nI r3.next,nI o.1,nI o.2.1,.sl 5 0 o.2.2.2.length]]⟩,some ⟨.arr,1,o.2.2.1.map nInt⟩,some ⟨.arr,1,o.2.2.2.map nInt⟩]):=by
 unfold m51_1 at h
 rcases brx h with ⟨b6,h⟩|⟨b6,h⟩
 obtain ⟨⟨v61,v62,v63⟩,w60,h⟩:=bcall (e51_2 a0 (eqI a0.kind 2) a1 p5 r3) h;replace h:=sel3_some h;try simp -implicitDefEqProofs only [go_sem] at w60
 all_goals cases h;simp -implicitDefEqProofs only [go_sem,k51_1, *]
theorem e51 (a0:Acn)(a1:Route)(r:Route)(h:m51 a0 a1=some r):evFL T 51 [.agg [nI a0.kind,nI a0.n],.agg (nRou .imm a1)] []=some (.agg [nI r.prefix_.addr,nI r.prefix_.len,nI r.attrs.origin,.sl 0 0 r.attrs.path.length,nI r.attrs.next,nI r.attrs.med,nI r.attrs.pref,.sl 1 0 r.attrs.comms.length],[some ⟨.arr,1,r.attrs.path.map nInt⟩,some ⟨.arr,1,r.attrs.comms.map nInt⟩]):=by
 unfold m51 at h;rw [ev fn51 rfl];obtain ⟨r3,w2,h⟩:=bcall (e52 a1.attrs) h;obtain ⟨⟨v66,v67,v68,v69⟩,w65,h⟩:=bcall (e51_1 a0 (eqI a0.kind 1) a1 (⟨0,0⟩:Prefix) r3) h;replace h:=sel4_some h;(try simp -implicitDefEqProofs only [go_sem] at w2);(try simp -implicitDefEqProofs only [go_sem] at w65);cases h;simp -implicitDefEqProofs only [go_sem,i51,c51,w2,w65]
@[go_sem] theorem call27 (args:List AV)(S:St):evCall T (evFL T) 27 args S=c3A true true (evFL T 27) (rawAll S [[5,0],[0,0,0,1,0,0,0,1]] args):=evCall3_g fn27 rfl (fun h=>absurd h.1 (by decide)) args S
theorem e27_9 (a0:Policy)(p1:Int)(s94:Int)(x103:Term)(p112:Int)(s135:Int)(r154:Bool)(s136:Prefix)(s137:Int)(s138:Int)(s139:Int)(s140:Int)(s141:List Int)(s142:List Int)(p2:Prefix)(r151:Route)(o:(Prefix×Int×Int×Int×Int×List Int×List Int))(h:m27_9 r154 s136 s137 s138 s139 s140 s141 s142 r151=some o):evCL T 2 k27_9 (frOf 53 (upd (upd (upd (upd (upd (upd (upd (upd (upd (upd (upd (upd anyF 2 (.ptr 2 0 0)) 3 (.ptr 3 0 0)) 4 (.ptr 6 0 0)) 7 (.ptr 9 0 0)) 10 (.ptr 10 0 0)) 12 (.ts .imm 5 (a0.terms.map (nTer .imm)))) 13 (nI p1)) 14 (nI s94)) 23 (.ts .imm 2 (x103.acts.map nAcn))) 24 (nI p112)) 25 (nI s135)) 33 (.bool r154))) [none,none,some ⟨.box,2,[(nPol .imm a0)]⟩,some ⟨.box,8,[[nI s136.addr,nI s136.len,nI s137,.sl 4 0 s141.length,nI s138,nI s139,nI s140,.sl 5 0 s142.length]]⟩,some ⟨.arr,1,s141.map nInt⟩,some ⟨.arr,1,s142.map nInt⟩,some ⟨.box,8,[[nI p2.addr,nI p2.len,nI 0,.sl 7 0 0,nI 0,nI 0,nI 0,.sl 8 0 0]]⟩,some ⟨.arr,1,[]⟩,some ⟨.arr,1,[]⟩,some ⟨.box,5,[(nTer .imm x103)]⟩,some ⟨.box,8,[[nI r151.prefix_.addr,nI r151.prefix_.len,nI r151.attrs.origin,.sl 11 0 r151.attrs.path.length,nI r151.attrs.next,nI r151.attrs.med,nI r151.attrs.pref,.sl 12 0 r151.attrs.comms.length]]⟩,some ⟨.arr,1,r151.attrs.path.map nInt⟩,some ⟨.arr,1,r151.attrs.comms.map nInt⟩]=some (.normal,frOf 53 (upd (upd (upd (upd (upd (upd (upd (upd (upd (upd anyF 2 (.ptr 2 0 0)) 3 (.ptr 3 0 0)) 4 (.ptr 6 0 0)) 7 (.ptr 9 0 0)) 12 (.ts .imm 5 (a0.terms.map (nTer .imm)))) 13 (nI p1)) 14 (nI s94)) 23 (.ts .imm 2 (x103.acts.map nAcn))) 24 (nI p112)) 25 (nI s135)),[none,none,some ⟨.box,2,[(nPol .imm a0)]⟩,some ⟨.box,8,[[nI o.1.addr,nI o.1.len,nI o.2.1,.sl 4 0 o.2.2.2.2.2.1.length,nI o.2.2.1,nI o.2.2.2.1,nI o.2.2.2.2.1,.sl 5 0 o.2.2.2.2.2.2.length]]⟩,some ⟨.arr,1,o.2.2.2.2.2.1.map nInt⟩,some ⟨.arr,1,o.2.2.2.2.2.2.map nInt⟩,some ⟨.box,8,[[nI p2.addr,nI p2.len,nI 0,.sl 7 0 0,nI 0,nI 0,nI 0,.sl 8 0 0]]⟩,some ⟨.arr,1,[]⟩,some ⟨.arr,1,[]⟩,some ⟨.box,5,[(nTer .imm x103)]⟩]):=by
 unfold m27_9 at h
 rcases brx h with ⟨b155,h⟩|⟨b155,h⟩
 all_goals cases h;simp -implicitDefEqProofs only [go_sem,k27_9,b155]
@[go_sem] noncomputable def X27_7 (a0:Policy)(p1:Int)(s94:Int)(x103:Term)(p2:Prefix)(o:(Prefix×Int×Int×Int×Int×List Int×List Int)):Ex×Fr×St :=
 (.exit 2,frOf 53 (upd (upd (upd (upd (upd (upd (upd anyF 2 (.ptr 2 0 0)) 3 (.ptr 3 0 0)) 4 (.ptr 6 0 0)) 7 (.ptr 9 0 0)) 12 (.ts .imm 5 (a0.terms.map (nTer .imm)))) 13 (nI p1)) 14 (nI s94)),[none,none,some ⟨.box,2,[(nPol .imm a0)]⟩,some ⟨.box,8,[[nI o.1.addr,nI o.1.len,nI o.2.1,.sl 4 0 o.2.2.2.2.2.1.length,nI o.2.2.1,nI o.2.2.2.1,nI o.2.2.2.2.1,.sl 5 0 o.2.2.2.2.2.2.length]]⟩,some ⟨.arr,1,o.2.2.2.2.2.1.map nInt⟩,some ⟨.arr,1,o.2.2.2.2.2.2.map nInt⟩,some ⟨.box,8,[[nI p2.addr,nI p2.len,nI 0,.sl 7 0 0,nI 0,nI 0,nI 0,.sl 8 0 0]]⟩,some ⟨.arr,1,[]⟩,some ⟨.arr,1,[]⟩,some ⟨.box,5,[(nTer .imm x103)]⟩])
@[go_sem] noncomputable def E27_7 (a0:Policy)(p1:Int)(s94:Int)(x103:Term)(p112:Int)(p2:Prefix)(s:(Int×Prefix×Int×Int×Int×Int×List Int×List Int)):Fr×St:=(frOf 53 (upd (upd (upd (upd (upd (upd (upd (upd (upd (upd anyF 2 (.ptr 2 0 0)) 3 (.ptr 3 0 0)) 4 (.ptr 6 0 0)) 7 (.ptr 9 0 0)) 12 (.ts .imm 5 (a0.terms.map (nTer .imm)))) 13 (nI p1)) 14 (nI s94)) 23 (.ts .imm 2 (x103.acts.map nAcn))) 24 (nI p112)) 25 (nI s.1)),[none,none,some ⟨.box,2,[(nPol .imm a0)]⟩,some ⟨.box,8,[[nI s.2.1.addr,nI s.2.1.len,nI s.2.2.1,.sl 4 0 s.2.2.2.2.2.2.1.length,nI s.2.2.2.1,nI s.2.2.2.2.1,nI s.2.2.2.2.2.1,.sl 5 0 s.2.2.2.2.2.2.2.length]]⟩,some ⟨.arr,1,s.2.2.2.2.2.2.1.map nInt⟩,some ⟨.arr,1,s.2.2.2.2.2.2.2.map nInt⟩,some ⟨.box,8,[[nI p2.addr,nI p2.len,nI 0,.sl 7 0 0,nI 0,nI 0,nI 0,.sl 8 0 0]]⟩,some ⟨.arr,1,[]⟩,some ⟨.arr,1,[]⟩,some ⟨.box,5,[(nTer .imm x103)]⟩])
theorem e27_7 (a0:Policy)(p1:Int)(s94:Int)(x103:Term)(p112:Int)(p2:Prefix):LW T 2 k27_7b (m27_7b x103 p112) (E27_7 a0 p1 s94 x103 p112 p2) (X27_7 a0 p1 s94 x103 p2):=by
 refine lwk nofun fun s o h=>?_
 unfold m27_7b at h;obtain ⟨s135,s136,s137,s138,s139,s140,s141,s142⟩:=s;replace h:=sel8_some h
 rcases brx h with ⟨b143,h⟩|⟨b143,h⟩
 rotate_left
 obtain ⟨x144,g146,g147,g148,h⟩:=bidx nAcn h;obtain ⟨r151,w150,h⟩:=bcall (e51 x144 (⟨s136,(⟨s137,s141,s138,s139,s140,s142⟩:Attrs)⟩:Route)) h;obtain ⟨r154,w153,h⟩:=bcall (e26 r151) h;obtain ⟨⟨v158,v159,v160,v161,v162,v163,v164⟩,w157,h⟩:=bcall (e27_9 a0 p1 s94 x103 p112 s135 r154 s136 s137 s138 s139 s140 s141 s142 p2 r151) h;replace h:=sel7_some h;(try simp -implicitDefEqProofs only [go_sem] at g147 g148 w150 w153);try simp -implicitDefEqProofs only [go_sem] at w157
 all_goals cases h;simp -implicitDefEqProofs only [go_sem,k27_7b, *]
@[go_sem] noncomputable def X27_6 (a0:Policy)(p1:Int)(s94:Int)(p2:Prefix)(o:((Prefix×Int×Int×Int×Int×List Int×List Int) ⊕ (Int×Prefix×Int×Int×Int×Int×List Int×List Int))):Ex×Fr×St :=
 match o with
 | .inl o=>(.normal,frOf 53 (upd (upd (upd (upd (upd (upd anyF 2 (.ptr 2 0 0)) 3 (.ptr 3 0 0)) 4 (.ptr 6 0 0)) 12 (.ts .imm 5 (a0.terms.map (nTer .imm)))) 13 (nI p1)) 14 (nI s94)),[none,none,some ⟨.box,2,[(nPol .imm a0)]⟩,some ⟨.box,8,[[nI o.1.addr,nI o.1.len,nI o.2.1,.sl 4 0 o.2.2.2.2.2.1.length,nI o.2.2.1,nI o.2.2.2.1,nI o.2.2.2.2.1,.sl 5 0 o.2.2.2.2.2.2.length]]⟩,some ⟨.arr,1,o.2.2.2.2.2.1.map nInt⟩,some ⟨.arr,1,o.2.2.2.2.2.2.map nInt⟩,some ⟨.box,8,[[nI p2.addr,nI p2.len,nI 0,.sl 7 0 0,nI 0,nI 0,nI 0,.sl 8 0 0]]⟩,some ⟨.arr,1,[]⟩,some ⟨.arr,1,[]⟩])
 | .inr o=>(.ret,frOf 53 (upd (upd anyF 4 (.ptr 2 0 0)) 5 (nI o.1)),[none,none,some ⟨.box,8,[[nI o.2.1.addr,nI o.2.1.len,nI o.2.2.1,.sl 3 0 o.2.2.2.2.2.2.1.length,nI o.2.2.2.1,nI o.2.2.2.2.1,nI o.2.2.2.2.2.1,.sl 4 0 o.2.2.2.2.2.2.2.length]]⟩,some ⟨.arr,1,o.2.2.2.2.2.2.1.map nInt⟩,some ⟨.arr,1,o.2.2.2.2.2.2.2.map nInt⟩])
theorem e27_6 (a0:Policy)(p1:Int)(s94:Int)(s95:Prefix)(s96:Int)(s97:Int)(s98:Int)(s99:Int)(s100:List Int)(s101:List Int)(p2:Prefix)(o:((Prefix×Int×Int×Int×Int×List Int×List Int) ⊕ (Int×Prefix×Int×Int×Int×Int×List Int×List Int)))(h:m27_6 a0 s94 s95 s96 s97 s98 s99 s100 s101=some o):evCL T 2 k27_6 (frOf 53 (upd (upd (upd (upd (upd (upd anyF 2 (.ptr 2 0 0)) 3 (.ptr 3 0 0)) 4 (.ptr 6 0 0)) 12 (.ts .imm 5 (a0.terms.map (nTer .imm)))) 13 (nI p1)) 14 (nI s94))) [none,none,some ⟨.box,2,[(nPol .imm a0)]⟩,some ⟨.box,8,[[nI s95.addr,nI s95.len,nI s96,.sl 4 0 s100.length,nI s97,nI s98,nI s99,.sl 5 0 s101.length]]⟩,some ⟨.arr,1,s100.map nInt⟩,some ⟨.arr,1,s101.map nInt⟩,some ⟨.box,8,[[nI p2.addr,nI p2.len,nI 0,.sl 7 0 0,nI 0,nI 0,nI 0,.sl 8 0 0]]⟩,some ⟨.arr,1,[]⟩,some ⟨.arr,1,[]⟩]=some (X27_6 a0 p1 s94 p2 o):=by
 unfold m27_6 at h;obtain ⟨x103,g105,g106,g107,h⟩:=bidx (nTer .imm) h;obtain ⟨r110,w109,h⟩:=bcall (e50 x103 (⟨s95,(⟨s96,s100,s97,s98,s99,s101⟩:Attrs)⟩:Route)) h;try simp -implicitDefEqProofs only [go_sem] at g106 g107 w109
 rcases brx h with ⟨b111,h⟩|⟨b111,h⟩
 rotate_left
 obtain ⟨⟨v167,v168,v169,v170,v171,v172,v173⟩,w166,h⟩:=bcall (e27_7 a0 p1 s94 x103 (↑x103.acts.length:Int) p2 (0,s95,s96,s97,s98,s99,s100,s101)) h;replace h:=sel7_some h;try simp -implicitDefEqProofs only [go_sem] at w166
 rcases brx h with ⟨b174,h⟩|⟨b174,h⟩
 try simp -implicitDefEqProofs only [go_sem,k27_6,g105,g106,g107,w109,b111,w166,b174]
 rcases brx h with ⟨b175,h⟩|⟨b175,h⟩
 all_goals cases h;simp -implicitDefEqProofs only [go_sem,k27_6, *]
@[go_sem] noncomputable def X27_1 (a0:Policy)(p2:Prefix)(o:((Prefix×Int×Int×Int×Int×List Int×List Int) ⊕ (Int×Prefix×Int×Int×Int×Int×List Int×List Int))):Ex×Fr×St :=
 match o with
 | .inl o=>(.exit 0,frOf 53 (upd (upd (upd anyF 2 (.ptr 2 0 0)) 3 (.ptr 3 0 0)) 4 (.ptr 6 0 0)),[none,none,some ⟨.box,2,[(nPol .imm a0)]⟩,some ⟨.box,8,[[nI o.1.addr,nI o.1.len,nI o.2.1,.sl 4 0 o.2.2.2.2.2.1.length,nI o.2.2.1,nI o.2.2.2.1,nI o.2.2.2.2.1,.sl 5 0 o.2.2.2.2.2.2.length]]⟩,some ⟨.arr,1,o.2.2.2.2.2.1.map nInt⟩,some ⟨.arr,1,o.2.2.2.2.2.2.map nInt⟩,some ⟨.box,8,[[nI p2.addr,nI p2.len,nI 0,.sl 7 0 0,nI 0,nI 0,nI 0,.sl 8 0 0]]⟩,some ⟨.arr,1,[]⟩,some ⟨.arr,1,[]⟩])
 | .inr o=>(.ret,frOf 53 (upd (upd anyF 4 (.ptr 2 0 0)) 5 (nI o.1)),[none,none,some ⟨.box,8,[[nI o.2.1.addr,nI o.2.1.len,nI o.2.2.1,.sl 3 0 o.2.2.2.2.2.2.1.length,nI o.2.2.2.1,nI o.2.2.2.2.1,nI o.2.2.2.2.2.1,.sl 4 0 o.2.2.2.2.2.2.2.length]]⟩,some ⟨.arr,1,o.2.2.2.2.2.2.1.map nInt⟩,some ⟨.arr,1,o.2.2.2.2.2.2.2.map nInt⟩])
@[go_sem] noncomputable def E27_1 (a0:Policy)(p1:Int)(p2:Prefix)(s:(Int×Prefix×Int×Int×Int×Int×List Int×List Int)):Fr×St:=(frOf 53 (upd (upd (upd (upd (upd (upd anyF 2 (.ptr 2 0 0)) 3 (.ptr 3 0 0)) 4 (.ptr 6 0 0)) 12 (.ts .imm 5 (a0.terms.map (nTer .imm)))) 13 (nI p1)) 14 (nI s.1)),[none,none,some ⟨.box,2,[(nPol .imm a0)]⟩,some ⟨.box,8,[[nI s.2.1.addr,nI s.2.1.len,nI s.2.2.1,.sl 4 0 s.2.2.2.2.2.2.1.length,nI s.2.2.2.1,nI s.2.2.2.2.1,nI s.2.2.2.2.2.1,.sl 5 0 s.2.2.2.2.2.2.2.length]]⟩,some ⟨.arr,1,s.2.2.2.2.2.2.1.map nInt⟩,some ⟨.arr,1,s.2.2.2.2.2.2.2.map nInt⟩,some ⟨.box,8,[[nI p2.addr,nI p2.len,nI 0,.sl 7 0 0,nI 0,nI 0,nI 0,.sl 8 0 0]]⟩,some ⟨.arr,1,[]⟩,some ⟨.arr,1,[]⟩])
theorem e27_1 (a0:Policy)(p1:Int)(p2:Prefix):LW T 2 k27_1b (m27_1b a0 p1) (E27_1 a0 p1 p2) (X27_1 a0 p2):=by
 refine lwk (by rintro (b | b)<;>nofun) fun s o h=>?_
 unfold m27_1b at h;obtain ⟨s94,s95,s96,s97,s98,s99,s100,s101⟩:=s;replace h:=sel8_some h
 rcases brx h with ⟨b102,h⟩|⟨b102,h⟩
 rotate_left
 (try simp -implicitDefEqProofs only [go_sem,k27_1b,b102]);obtain ⟨o,w177,h⟩:=bcall (e27_6 a0 p1 s94 s95 s96 s97 s98 s99 s100 s101 p2) h
 rcases o with ⟨v178,v179,v180,v181,v182,v183,v184⟩|⟨v185,v186,v187,v188,v189,v190,v191,v192⟩
 replace h:=selS_l h;replace h:=sel7_some h;try simp -implicitDefEqProofs only [go_sem] at w177
 rotate_left
 replace h:=selS_r h;replace h:=sel8_some h;try simp -implicitDefEqProofs only [go_sem] at w177
 all_goals cases h;simp -implicitDefEqProofs only [go_sem,k27_1b, *]
theorem e27 (a0:Policy)(a1:Route)(r:(Int×Prefix×Int×Int×Int×Int×List Int×List Int))(h:m27 a0 a1=some r):evFL T 27 [.agg (nPol .imm a0),.agg [nI a1.prefix_.addr,nI a1.prefix_.len,nI a1.attrs.origin,.sl 0 0 a1.attrs.path.length,nI a1.attrs.next,nI a1.attrs.med,nI a1.attrs.pref,.sl 1 0 a1.attrs.comms.length]] [some ⟨.arr,1,a1.attrs.path.map nInt⟩,some ⟨.arr,1,a1.attrs.comms.map nInt⟩]=some (.tup [.agg [nI r.2.1.addr,nI r.2.1.len,nI r.2.2.1,.sl 3 0 r.2.2.2.2.2.2.1.length,nI r.2.2.2.1,nI r.2.2.2.2.1,nI r.2.2.2.2.2.1,.sl 4 0 r.2.2.2.2.2.2.2.length],nI r.1],[none,none,some ⟨.box,8,[[nI r.2.1.addr,nI r.2.1.len,nI r.2.2.1,.sl 3 0 r.2.2.2.2.2.2.1.length,nI r.2.2.2.1,nI r.2.2.2.2.1,nI r.2.2.2.2.2.1,.sl 4 0 r.2.2.2.2.2.2.2.length]]⟩,some ⟨.arr,1,r.2.2.2.2.2.2.1.map nInt⟩,some ⟨.arr,1,r.2.2.2.2.2.2.2.map nInt⟩]):=by
 unfold m27 at h;rw [ev fn27 rfl];(try simp -implicitDefEqProofs only [go_sem,i27,c27]);obtain ⟨o,w194,h⟩:=bcall (e27_1 a0 (↑a0.terms.length:Int) (⟨0,0⟩:Prefix) (0,a1.prefix_,a1.attrs.origin,a1.attrs.next,a1.attrs.med,a1.attrs.pref,a1.attrs.path,a1.attrs.comms)) h
 rcases o with ⟨v195,v196,v197,v198,v199,v200,v201⟩|⟨v203,v204,v205,v206,v207,v208,v209,v210⟩
 replace h:=selS_l h;replace h:=sel7_some h;(try simp -implicitDefEqProofs only [go_sem] at w194);try simp -implicitDefEqProofs only [go_sem,i27,c27,w194]
 rcases brx h with ⟨b202,h⟩|⟨b202,h⟩
 rotate_left 2
 replace h:=selS_r h;replace h:=sel8_some h;try simp -implicitDefEqProofs only [go_sem] at w194
 all_goals cases h;simp -implicitDefEqProofs only [go_sem,i27,c27, *]
@[go_sem] theorem calls17 (args:List AV)(S:St):evCall (T.at true) (evFL T) 17 args S=lendC (evFL T 17) S (lendAll S [[5,0],[8]] args):=evCall0 fns17 rfl rfl rfl args S
theorem e17_1 (a1:List Route)(a0:Policy)(o:Bool)(h:m17_1 a1 a0=some o):evCL T 0 k17_1 (frOf 44 (upd (upd anyF 1 (.ts .imm 8 (a1.map (nRou .imm)))) 2 (.ptr 0 0 0))) [some ⟨.box,2,[(nPol .imm a0)]⟩]=some (.normal,frOf 44 (upd (upd (upd anyF 1 (.ts .imm 8 (a1.map (nRou .imm)))) 2 (.ptr 0 0 0)) 18 (.bool o)),[some ⟨.box,2,[(nPol .imm a0)]⟩]):=by
 unfold m17_1 at h;obtain ⟨r3,w2,h⟩:=bcall (e25 a0) h;try simp -implicitDefEqProofs only [go_sem] at w2
 rcases brx h with ⟨b4,h⟩|⟨b4,h⟩
 all_goals cases h;simp -implicitDefEqProofs only [go_sem,k17_1,w2,b4]
theorem e17_4 (a1:List Route)(p9:Int)(s41:Int)(p66:Bool)(a0:Policy)(s42:List Route)(r59:Prefix)(r60:Int)(r61:Int)(r62:Int)(r63:Int)(r64:List Int)(r65:List Int)(o:List Route)(h:m17_4 p66 s42 r59 r60 r61 r62 r63 r64 r65=some o):evCL T 0 k17_4 (frOf 44 (upd (upd (upd (upd (upd (upd (upd anyF 2 (.ptr 0 0 0)) 6 (.sl 1 0 s42.length)) 9 (.ptr 2 0 0)) 19 (.ts .imm 8 (a1.map (nRou .imm)))) 20 (nI p9)) 21 (nI s41)) 36 (.bool p66))) [some ⟨.box,2,[(nPol .imm a0)]⟩,some ⟨.arr,8,s42.map (nRou .own)⟩,some ⟨.box,8,[[nI r59.addr,nI r59.len,nI r60,.sl 3 0 r64.length,nI r61,nI r62,nI r63,.sl 4 0 r65.length]]⟩,some ⟨.arr,1,r64.map nInt⟩,some ⟨.arr,1,r65.map nInt⟩]=some (.normal,frOf 44 (upd (upd (upd (upd (upd anyF 2 (.ptr 0 0 0)) 6 (.sl 1 0 o.length)) 19 (.ts .imm 8 (a1.map (nRou .imm)))) 20 (nI p9)) 21 (nI s41)),[some ⟨.box,2,[(nPol .imm a0)]⟩,some ⟨.arr,8,o.map (nRou .own)⟩]):=by
 unfold m17_4 at h
 rcases brx h with ⟨b67,h⟩|⟨b67,h⟩
 rotate_left
 obtain ⟨r70,w69,h⟩:=bcall (e28 (⟨r59,(⟨r60,r64,r61,r62,r63,r65⟩:Attrs)⟩:Route)) h;(try simp -implicitDefEqProofs only [go_sem] at w69);obtain ⟨g71,h⟩:=ck_some h;try simp -implicitDefEqProofs only [go_sem] at g71
 all_goals cases h;simp -implicitDefEqProofs only [go_sem,k17_4, *]
@[go_sem] noncomputable def X17_2 (o:(List Route ⊕ Unit)):Ex×Fr×St :=
 match o with
 | .inl o=>(.exit 0,frOf 44 (upd anyF 6 (.sl 0 0 o.length)),[some ⟨.arr,8,o.map (nRou .own)⟩])
 | .inr o=>(.ret,frOf 44 (upd (upd anyF 4 (.sl 0 0 0)) 5 (.bool false)),[some ⟨.arr,8,[]⟩])
@[go_sem] noncomputable def E17_2 (a1:List Route)(p9:Int)(a0:Policy)(s:(Int×List Route)):Fr×St:=(frOf 44 (upd (upd (upd (upd (upd anyF 2 (.ptr 0 0 0)) 6 (.sl 1 0 s.2.length)) 19 (.ts .imm 8 (a1.map (nRou .imm)))) 20 (nI p9)) 21 (nI s.1)),[some ⟨.box,2,[(nPol .imm a0)]⟩,some ⟨.arr,8,s.2.map (nRou .own)⟩])
theorem e17_2 (a1:List Route)(p9:Int)(a0:Policy):LW T 0 k17_2b (m17_2b a1 p9 a0) (E17_2 a1 p9 a0) X17_2:=by
 refine lwk (by rintro (b | b)<;>nofun) fun s o h=>?_
 unfold m17_2b at h;obtain ⟨s41,s42⟩:=s;replace h:=sel2_some h
 rcases brx h with ⟨b43,h⟩|⟨b43,h⟩
 rotate_left
 obtain ⟨x44,g46,g47,g48,h⟩:=bidx (nRou .imm) h;obtain ⟨r51,w50,h⟩:=bcall (e26 x44) h;try simp -implicitDefEqProofs only [go_sem] at g47 g48 w50
 rcases brx h with ⟨b52,h⟩|⟨b52,h⟩
 rotate_left
 obtain ⟨r55,w54,h⟩:=bcall (e28 x44) h;obtain ⟨⟨r58,r59,r60,r61,r62,r63,r64,r65⟩,w57,h⟩:=bcall (e27 a0 r55) h;replace h:=sel8_some h;obtain ⟨v74,w73,h⟩:=bcall (e17_4 a1 p9 s41 (eqI r58 1) a0 s42 r59 r60 r61 r62 r63 r64 r65) h;(try simp -implicitDefEqProofs only [go_sem] at w54 w57);try simp -implicitDefEqProofs only [go_sem] at w73
 all_goals cases h;simp -implicitDefEqProofs only [go_sem,k17_2b, *]
theorem e17 (a0:Policy)(a1:List Route)(r:((List Route)×Bool))(h:m17 a0 a1=some r):evFL T 17 [.agg (nPol .imm a0),.ts .imm 8 (a1.map (nRou .imm))] []=some (.tup [.sl 0 0 r.1.length,.bool r.2],[some ⟨.arr,8,r.1.map (nRou .own)⟩]):=by
 unfold m17 at h;rw [ev fn17 rfl];obtain ⟨v7,w6,h⟩:=bcall (e17_1 a1 a0) h;try simp -implicitDefEqProofs only [go_sem] at w6
 rcases brx h with ⟨b8,h⟩|⟨b8,h⟩
 (try simp -implicitDefEqProofs only [go_sem,i17,c17,w6,b8]);obtain ⟨o,w76,h⟩:=bcall (e17_2 a1 (↑a1.length:Int) a0 (0,[])) h
 rcases o with v77|⟨⟩
 replace h:=selS_l h;try simp -implicitDefEqProofs only [go_sem] at w76
 rotate_left
 replace h:=selS_r h;try simp -implicitDefEqProofs only [go_sem] at w76
 all_goals cases h;simp -implicitDefEqProofs only [go_sem,i17,c17, *]
@[go_sem] theorem call84:CL 84 [[5],[0]]:=evCall0 fn84 rfl rfl rfl
@[go_sem] noncomputable def X84_1 (o:(Unit ⊕ Int)):Ex×Fr×St :=
 match o with
 | .inl o=>(.exit 0,frOf 19 (anyF),[])
 | .inr o=>(.ret,frOf 19 (upd anyF 4 (nI o)),[])
@[go_sem] noncomputable def E84_1 (a1_f:Nat)(a1_c:List AV)(a0:List Term)(p1:Int)(s:Int):Fr×St:=(frOf 19 (upd (upd (upd (upd anyF 0 (.ts .imm 5 (a0.map (nTer .imm)))) 1 (.fn a1_f a1_c)) 7 (nI p1)) 8 (nI s)),[])
theorem e84_1 (a0:List Term)(p1:Int)(a1:(Term→Option Bool))(a1_f:Nat)(a1_c:List AV)(a1_h:capOk a1_c∧∀y0 r,a1 y0=some r→clR a1_f a1_c [.agg (nTer .imm y0)] (.bool r)):LW T 0 k84_1b (m84_1b a0 p1 a1) (E84_1 a1_f a1_c a0 p1) X84_1:=by
 refine lwk (by rintro (b | b)<;>nofun) fun s o h=>?_
 unfold m84_1b at h
 revert h
 generalize s=s12;intro h
 rcases brx h with ⟨b13,h⟩|⟨b13,h⟩
 rotate_left
 obtain ⟨x14,g16,g17,g18,h⟩:=bidx (nTer .imm) h;obtain ⟨r19,w21,h⟩:=bcall (a1_h.2 x14) h;try simp -implicitDefEqProofs only [go_sem] at g17 g18 w21
 rcases brx h with ⟨b22,h⟩|⟨b22,h⟩
 all_goals cases h;simp -implicitDefEqProofs only [go_sem,k84_1b, *]
theorem e84 (a0:List Term)(a1:(Term→Option Bool))(a1_f:Nat)(a1_c:List AV)(a1_h:capOk a1_c∧∀y0 r,a1 y0=some r→clR a1_f a1_c [.agg (nTer .imm y0)] (.bool r))(r:Int)(h:m84 a0 a1=some r):evFL T 84 [.ts .imm 5 (a0.map (nTer .imm)),.fn a1_f a1_c] []=some (nI r,[]):=by
 unfold m84 at h;rw [ev fn84 rfl];(try simp -implicitDefEqProofs only [go_sem,i84,c84,a1_h.1]);obtain ⟨o,w24,h⟩:=bcall (e84_1 a0 (↑a0.length:Int) a1 a1_f a1_c a1_h 0) h
 rcases o with ⟨⟩|v25
 replace h:=selS_l h;try simp -implicitDefEqProofs only [go_sem] at w24
 rotate_left
 replace h:=selS_r h;try simp -implicitDefEqProofs only [go_sem] at w24
 all_goals cases h;simp -implicitDefEqProofs only [go_sem,i84,c84,a1_h.1,w24]
@[go_sem] theorem call55:CL 55 [[5],[0]]:=evCall0 fn55 rfl rfl rfl
theorem e55 (a0:List Term)(a1:(Term→Option Bool))(a1_f:Nat)(a1_c:List AV)(a1_h:capOk a1_c∧∀y0 r,a1 y0=some r→clR a1_f a1_c [.agg (nTer .imm y0)] (.bool r))(r:Bool)(h:m55 a0 a1=some r):evFL T 55 [.ts .imm 5 (a0.map (nTer .imm)),.fn a1_f a1_c] []=some (.bool r,[]):=by
 unfold m55 at h;rw [ev fn55 rfl];obtain ⟨r3,w2,h⟩:=bcall (e84 a0 a1 a1_f a1_c a1_h) h;(try simp -implicitDefEqProofs only [go_sem] at w2);cases h;simp -implicitDefEqProofs only [go_sem,i55,c55,a1_h.1,w2]
theorem call87:CL 87 [[0],[0],[0]]:=evCall0 fn87 rfl rfl rfl
theorem callz87:CZ 87 [[0]] [[0],[0],[0]]:=evCallFz0 fn87 rfl rfl rfl
attribute [go_sem] call87 callz87
theorem e87_1 (a0:Int)(a1:Int)(a2:Int)(o:Bool)(h:m87_1 a0 a1 a2=some o):evCL T 0 k87_1 (frOf 15 (upd (upd (upd anyF 0 (nI a0)) 1 (nI a1)) 2 (nI a2))) []=some (.normal,frOf 15 (upd anyF 6 (.bool o)),[]):=by
 unfold m87_1 at h
 rcases brx h with ⟨b1,h⟩|⟨b1,h⟩
 all_goals cases h;simp -implicitDefEqProofs only [go_sem,k87_1,b1]
theorem e87 (a0:Int)(a1:Int)(a2:Int)(r:Bool)(h:m87 a0 a1 a2=some r):evFL T 87 [nI a0,nI a1,nI a2] []=some (.bool r,[]):=by
 unfold m87 at h;rw [ev fn87 rfl];obtain ⟨v4,w3,h⟩:=bcall (e87_1 a0 a1 a2) h;(try simp -implicitDefEqProofs only [go_sem] at w3);cases h;simp -implicitDefEqProofs only [go_sem,i87,c87,w3]
@[go_sem] theorem call140:CL 140 [[0]]:=evCall0 fn140 rfl rfl rfl
theorem e140_3 (a0:Int)(p5:Bool)(o:Bool)(h:m140_3 a0 p5=some o):evCL T 0 k140_3 (frOf 14 (upd (upd anyF 3 (nI a0)) 4 (.bool p5))) []=some (.normal,frOf 14 (upd (upd anyF 3 (nI a0)) 4 (.bool o)),[]):=by
 unfold m140_3 at h
 rcases brx h with ⟨b6,h⟩|⟨b6,h⟩
 all_goals cases h;simp -implicitDefEqProofs only [go_sem,k140_3,b6]
theorem e140_2 (a0:Int)(p3:Bool)(o:Bool)(h:m140_2 a0 p3=some o):evCL T 0 k140_2 (frOf 14 (upd (upd anyF 3 (nI a0)) 4 (.bool p3))) []=some (.normal,frOf 14 (upd (upd anyF 3 (nI a0)) 4 (.bool o)),[]):=by
 unfold m140_2 at h
 rcases brx h with ⟨b4,h⟩|⟨b4,h⟩
 obtain ⟨v9,w8,h⟩:=bcall (e140_3 a0 (eqI a0 3)) h;try simp -implicitDefEqProofs only [go_sem] at w8
 all_goals cases h;simp -implicitDefEqProofs only [go_sem,k140_2, *]
theorem e140_1 (a0:Int)(p1:Bool)(o:Bool)(h:m140_1 a0 p1=some o):evCL T 0 k140_1 (frOf 14 (upd (upd anyF 3 (nI a0)) 4 (.bool p1))) []=some (.normal,frOf 14 (upd (upd anyF 3 (nI a0)) 4 (.bool o)),[]):=by
 unfold m140_1 at h
 rcases brx h with ⟨b2,h⟩|⟨b2,h⟩
 obtain ⟨v12,w11,h⟩:=bcall (e140_2 a0 (eqI a0 2)) h;try simp -implicitDefEqProofs only [go_sem] at w11
 all_goals cases h;simp -implicitDefEqProofs only [go_sem,k140_1, *]
theorem e140_4 (a0:Int)(p18:Bool)(o:Bool)(h:m140_4 a0 p18=some o):evCL T 0 k140_4 (frOf 14 (upd (upd anyF 3 (nI a0)) 11 (.bool p18))) []=some (.normal,frOf 14 (upd anyF 11 (.bool o)),[]):=by
 unfold m140_4 at h
 rcases brx h with ⟨b19,h⟩|⟨b19,h⟩
 all_goals cases h;simp -implicitDefEqProofs only [go_sem,k140_4,b19]
theorem e140 (a0:Int)(r:Int)(h:m140 a0=some r):evFL T 140 [nI a0] []=some (nI r,[]):=by
 unfold m140 at h;rw [ev fn140 rfl];obtain ⟨v15,w14,h⟩:=bcall (e140_1 a0 (eqI a0 1)) h;try simp -implicitDefEqProofs only [go_sem] at w14
 rcases brx h with ⟨b16,h⟩|⟨b16,h⟩
 try simp -implicitDefEqProofs only [go_sem,i140,c140,w14,b16]
 rcases brx h with ⟨b17,h⟩|⟨b17,h⟩
 obtain ⟨v22,w21,h⟩:=bcall (e140_4 a0 (eqI a0 5)) h;try simp -implicitDefEqProofs only [go_sem] at w21
 rcases brx h with ⟨b23,h⟩|⟨b23,h⟩
 all_goals cases h;simp -implicitDefEqProofs only [go_sem,i140,c140, *]
@[go_sem] theorem call116:CL 116 [[2],[0]]:=evCall0 fn116 rfl rfl rfl
@[go_sem] noncomputable def X116_1 (o:(Unit ⊕ Int)):Ex×Fr×St :=
 match o with
 | .inl o=>(.exit 0,frOf 33 (anyF),[])
 | .inr o=>(.ret,frOf 33 (upd anyF 4 (nI o)),[])
@[go_sem] noncomputable def E116_1 (a0:List ReCell)(a1:Int)(s:(Int×Int)):Fr×St:=(frOf 33 (upd (upd (upd (upd anyF 0 (.ts .imm 2 (a0.map nReC))) 1 (nI a1)) 5 (nI s.1)) 6 (nI s.2)),[])
theorem e116_1 (a0:List ReCell)(a1:Int):LW T 0 k116_1b (m116_1b a0 a1) (E116_1 a0 a1) X116_1:=by
 refine lwk (by rintro (b | b)<;>nofun) fun s o h=>?_
 unfold m116_1b at h;obtain ⟨s12,s13⟩:=s;replace h:=sel2_some h
 rcases brx h with ⟨b14,h⟩|⟨b14,h⟩
 rotate_left
 obtain ⟨x15,g17,g18,g19,h⟩:=bidx nReC h;obtain ⟨r22,w21,h⟩:=bcall (e140 x15.kind) h;try simp -implicitDefEqProofs only [go_sem] at g18 g19 w21
 rcases brx h with ⟨b23,h⟩|⟨b23,h⟩
 try simp -implicitDefEqProofs only [go_sem,k116_1b,b14,g17,g18,g19,w21,b23]
 rcases brx h with ⟨b24,h⟩|⟨b24,h⟩
 all_goals cases h;simp -implicitDefEqProofs only [go_sem,k116_1b, *]
theorem e116 (a0:List ReCell)(a1:Int)(r:Int)(h:m116 a0 a1=some r):evFL T 116 [.ts .imm 2 (a0.map nReC),nI a1] []=some (nI r,[]):=by
 unfold m116 at h;rw [ev fn116 rfl];(try simp -implicitDefEqProofs only [go_sem,i116,c116]);obtain ⟨o,w26,h⟩:=bcall (e116_1 a0 a1 (1,a1)) h
 rcases o with ⟨⟩|v27
 replace h:=selS_l h;try simp -implicitDefEqProofs only [go_sem] at w26
 rotate_left
 replace h:=selS_r h;try simp -implicitDefEqProofs only [go_sem] at w26
 all_goals cases h;simp -implicitDefEqProofs only [go_sem,i116,c116,w26]
@[go_sem] theorem call141:CL 141 [[2],[0]]:=evCall0 fn141 rfl rfl rfl
@[go_sem] noncomputable def X141_1 (o:(Unit ⊕ Int)):Ex×Fr×St :=
 match o with
 | .inl o=>(.exit 0,frOf 19 (anyF),[])
 | .inr o=>(.ret,frOf 19 (upd anyF 4 (nI o)),[])
@[go_sem] noncomputable def E141_1 (a1_f:Nat)(a1_c:List AV)(a0:List ReCell)(p1:Int)(s:Int):Fr×St:=(frOf 19 (upd (upd (upd (upd anyF 0 (.ts .imm 2 (a0.map nReC))) 1 (.fn a1_f a1_c)) 7 (nI p1)) 8 (nI s)),[])
theorem e141_1 (a0:List ReCell)(p1:Int)(a1:(ReCell→Option Bool))(a1_f:Nat)(a1_c:List AV)(a1_h:capOk a1_c∧∀y0 r,a1 y0=some r→clR a1_f a1_c [.agg [nI y0.kind,nI y0.n]] (.bool r)):LW T 0 k141_1b (m141_1b a0 p1 a1) (E141_1 a1_f a1_c a0 p1) X141_1:=by
 refine lwk (by rintro (b | b)<;>nofun) fun s o h=>?_
 unfold m141_1b at h
 revert h
 generalize s=s12;intro h
 rcases brx h with ⟨b13,h⟩|⟨b13,h⟩
 rotate_left
 obtain ⟨x14,g16,g17,g18,h⟩:=bidx nReC h;obtain ⟨r19,w21,h⟩:=bcall (a1_h.2 x14) h;try simp -implicitDefEqProofs only [go_sem] at g17 g18 w21
 rcases brx h with ⟨b22,h⟩|⟨b22,h⟩
 all_goals cases h;simp -implicitDefEqProofs only [go_sem,k141_1b, *]
theorem e141 (a0:List ReCell)(a1:(ReCell→Option Bool))(a1_f:Nat)(a1_c:List AV)(a1_h:capOk a1_c∧∀y0 r,a1 y0=some r→clR a1_f a1_c [.agg [nI y0.kind,nI y0.n]] (.bool r))(r:Int)(h:m141 a0 a1=some r):evFL T 141 [.ts .imm 2 (a0.map nReC),.fn a1_f a1_c] []=some (nI r,[]):=by
 unfold m141 at h;rw [ev fn141 rfl];(try simp -implicitDefEqProofs only [go_sem,i141,c141,a1_h.1]);obtain ⟨o,w24,h⟩:=bcall (e141_1 a0 (↑a0.length:Int) a1 a1_f a1_c a1_h 0) h
 rcases o with ⟨⟩|v25
 replace h:=selS_l h;try simp -implicitDefEqProofs only [go_sem] at w24
 rotate_left
 replace h:=selS_r h;try simp -implicitDefEqProofs only [go_sem] at w24
 all_goals cases h;simp -implicitDefEqProofs only [go_sem,i141,c141,a1_h.1,w24]
@[go_sem] theorem call117:CL 117 [[2],[0]]:=evCall0 fn117 rfl rfl rfl
theorem e117 (a0:List ReCell)(a1:(ReCell→Option Bool))(a1_f:Nat)(a1_c:List AV)(a1_h:capOk a1_c∧∀y0 r,a1 y0=some r→clR a1_f a1_c [.agg [nI y0.kind,nI y0.n]] (.bool r))(r:Bool)(h:m117 a0 a1=some r):evFL T 117 [.ts .imm 2 (a0.map nReC),.fn a1_f a1_c] []=some (.bool r,[]):=by
 unfold m117 at h;rw [ev fn117 rfl];obtain ⟨r3,w2,h⟩:=bcall (e141 a0 a1 a1_f a1_c a1_h) h;(try simp -implicitDefEqProofs only [go_sem] at w2);cases h;simp -implicitDefEqProofs only [go_sem,i117,c117,a1_h.1,w2]
@[go_sem] theorem call119:CL 119 [[0]]:=evCall0 fn119 rfl rfl rfl
theorem e119 (a0:Int)(r:Bool)(h:m119 a0=some r):evFL T 119 [nI a0] []=some (.bool r,[]):=by
 unfold m119 at h;rw [ev fn119 rfl];obtain ⟨r3,w2,h⟩:=bcall (e87 a0 1 65535) h;(try simp -implicitDefEqProofs only [go_sem] at w2);cases h;simp -implicitDefEqProofs only [go_sem,i119,c119,w2]
theorem call118:CL 118 [[0,0]]:=evCall0 fn118 rfl rfl rfl
theorem callz118:CZ 118 [[0]] [[0,0]]:=evCallFz0 fn118 rfl rfl rfl
attribute [go_sem] call118 callz118
theorem e118_1 (a0:ReCell)(o:Bool)(h:m118_1 a0=some o):evCL T 0 k118_1 (frOf 22 (upd anyF 1 (.ptr 0 0 0))) [some ⟨.box,2,[[nI a0.kind,nI a0.n]]⟩]=some (.normal,frOf 22 (upd anyF 2 (.bool o)),[]):=by
 unfold m118_1 at h
 rcases brx h with ⟨b1,h⟩|⟨b1,h⟩
 rotate_left
 obtain ⟨r4,w3,h⟩:=bcall (e119 a0.n) h;try simp -implicitDefEqProofs only [go_sem] at w3
 rcases brx h with ⟨b5,h⟩|⟨b5,h⟩
 all_goals cases h;simp -implicitDefEqProofs only [go_sem,k118_1, *]
theorem e118 (a0:ReCell)(r:Bool)(h:m118 a0=some r):evFL T 118 [.agg [nI a0.kind,nI a0.n]] []=some (.bool r,[]):=by
 unfold m118 at h;rw [ev fn118 rfl];obtain ⟨v8,w7,h⟩:=bcall (e118_1 a0) h;(try simp -implicitDefEqProofs only [go_sem] at w7);cases h;simp -implicitDefEqProofs only [go_sem,i118,c118,w7]
end Go.Pi.YthidbgihjhkjaaaGreat.FilterRoutes
