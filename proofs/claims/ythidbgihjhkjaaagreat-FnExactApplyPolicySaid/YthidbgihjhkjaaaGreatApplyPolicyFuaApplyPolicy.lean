/- no condition -/
import Derived.Test.YthidbgihjhkjaaaGreatApplyPolicyTabApplyPolicy
import Derived.Test.YthidbgihjhkjaaaGreatApplyPolicyModApplyPolicy
set_option linter.all false
namespace Go.Pi.YthidbgihjhkjaaaGreat.ApplyPolicy
open Go Go.Proofs Go.Pi
set_option maxRecDepth 100000
set_option linter.all false
@[go_sem] noncomputable def nInt (x:Int):List AV:=[.int .i64 x]
theorem sq_encInt (q:Ql)(x:Int):setQL q (nInt x)=nInt x:=by simp [nInt]
theorem sqm_encInt (q:Ql)(xs:List Int):setQLL q (xs.map nInt)=xs.map nInt:=by rw [setQLL_map];exact List.map_congr_left (fun x _=>sq_encInt q x)
theorem ow_encInt (x:Int):ownOnlyL (nInt x)=true:=by simp [nInt,ownOnlyL,ownOnly,ownLL_map]
theorem owm_encInt (xs:List Int):ownOnlyLL (xs.map nInt)=true:=ownLL_map _ ow_encInt xs
theorem fi_encInt (x:Int):fine.fineL (nInt x)=true:=by simp [nInt,fine.fineL,fine,fineLL_map]
theorem fim_encInt (xs:List Int):fine.fineLL (xs.map nInt)=true:=fineLL_map _ fi_encInt xs
theorem nu_encInt (x:Int):nude.nudeL (nInt x)=true:=by simp [nInt,nude.nudeL,nude,nudeLL_map]
theorem num_encInt (xs:List Int):nude.nudeLL (xs.map nInt)=true:=nudeLL_map _ nu_encInt xs
@[go_sem] theorem st_encInt (q:Ql)(xs:List Int):(xs.map nInt).map (fun x=>x.map (setTop q))=xs.map nInt:=by rw [List.map_map];rfl
attribute [simp] sqm_encInt ow_encInt owm_encInt fi_encInt fim_encInt nu_encInt num_encInt
attribute [go_sem] sqm_encInt owm_encInt fim_encInt num_encInt
@[go_sem] noncomputable def nPre (x:Prefix):List AV:=[.int .i64 x.addr,.int .i64 x.len]
@[go_sem] noncomputable def nRan (x:Range):List AV:=[.int .i64 x.prefix_.addr,.int .i64 x.prefix_.len,.int .i64 x.lo,.int .i64 x.hi]
theorem sq_encRange (q:Ql)(x:Range):setQL q (nRan x)=nRan x:=by simp [nRan]
theorem sqm_encRange (q:Ql)(xs:List Range):setQLL q (xs.map nRan)=xs.map nRan:=by rw [setQLL_map];exact List.map_congr_left (fun x _=>sq_encRange q x)
theorem ow_encRange (x:Range):ownOnlyL (nRan x)=true:=by simp [nRan,ownOnlyL,ownOnly,ownLL_map]
theorem owm_encRange (xs:List Range):ownOnlyLL (xs.map nRan)=true:=ownLL_map _ ow_encRange xs
theorem fi_encRange (x:Range):fine.fineL (nRan x)=true:=by simp [nRan,fine.fineL,fine,fineLL_map]
theorem fim_encRange (xs:List Range):fine.fineLL (xs.map nRan)=true:=fineLL_map _ fi_encRange xs
theorem nu_encRange (x:Range):nude.nudeL (nRan x)=true:=by simp [nRan,nude.nudeL,nude,nudeLL_map]
theorem num_encRange (xs:List Range):nude.nudeLL (xs.map nRan)=true:=nudeLL_map _ nu_encRange xs
@[go_sem] theorem st_encRange (q:Ql)(xs:List Range):(xs.map nRan).map (fun x=>x.map (setTop q))=xs.map nRan:=by rw [List.map_map];rfl
attribute [simp] sqm_encRange ow_encRange owm_encRange fi_encRange fim_encRange nu_encRange num_encRange
attribute [go_sem] sqm_encRange owm_encRange fim_encRange num_encRange
@[go_sem] noncomputable def nLRa (q:Ql)(x:List Range):List AV:=[.ts q 4 (x.map nRan)]
@[go_sem] noncomputable def nReC (x:ReCell):List AV:=[.int .i64 x.kind,.int .i64 x.n]
theorem sq_encReCell (q:Ql)(x:ReCell):setQL q (nReC x)=nReC x:=by simp [nReC]
theorem sqm_encReCell (q:Ql)(xs:List ReCell):setQLL q (xs.map nReC)=xs.map nReC:=by rw [setQLL_map];exact List.map_congr_left (fun x _=>sq_encReCell q x)
theorem ow_encReCell (x:ReCell):ownOnlyL (nReC x)=true:=by simp [nReC,ownOnlyL,ownOnly,ownLL_map]
theorem owm_encReCell (xs:List ReCell):ownOnlyLL (xs.map nReC)=true:=ownLL_map _ ow_encReCell xs
theorem fi_encReCell (x:ReCell):fine.fineL (nReC x)=true:=by simp [nReC,fine.fineL,fine,fineLL_map]
theorem fim_encReCell (xs:List ReCell):fine.fineLL (xs.map nReC)=true:=fineLL_map _ fi_encReCell xs
theorem nu_encReCell (x:ReCell):nude.nudeL (nReC x)=true:=by simp [nReC,nude.nudeL,nude,nudeLL_map]
theorem num_encReCell (xs:List ReCell):nude.nudeLL (xs.map nReC)=true:=nudeLL_map _ nu_encReCell xs
@[go_sem] theorem st_encReCell (q:Ql)(xs:List ReCell):(xs.map nReC).map (fun x=>x.map (setTop q))=xs.map nReC:=by rw [List.map_map];rfl
attribute [simp] sqm_encReCell ow_encReCell owm_encReCell fi_encReCell fim_encReCell nu_encReCell num_encReCell
attribute [go_sem] sqm_encReCell owm_encReCell fim_encReCell num_encReCell
@[go_sem] noncomputable def nLRe (q:Ql)(x:List ReCell):List AV:=[.ts q 2 (x.map nReC)]
@[go_sem] noncomputable def nAcn (x:Acn):List AV:=[.int .i64 x.kind,.int .i64 x.n]
theorem sq_encAcn (q:Ql)(x:Acn):setQL q (nAcn x)=nAcn x:=by simp [nAcn]
theorem sqm_encAcn (q:Ql)(xs:List Acn):setQLL q (xs.map nAcn)=xs.map nAcn:=by rw [setQLL_map];exact List.map_congr_left (fun x _=>sq_encAcn q x)
theorem ow_encAcn (x:Acn):ownOnlyL (nAcn x)=true:=by simp [nAcn,ownOnlyL,ownOnly,ownLL_map]
theorem owm_encAcn (xs:List Acn):ownOnlyLL (xs.map nAcn)=true:=ownLL_map _ ow_encAcn xs
theorem fi_encAcn (x:Acn):fine.fineL (nAcn x)=true:=by simp [nAcn,fine.fineL,fine,fineLL_map]
theorem fim_encAcn (xs:List Acn):fine.fineLL (xs.map nAcn)=true:=fineLL_map _ fi_encAcn xs
theorem nu_encAcn (x:Acn):nude.nudeL (nAcn x)=true:=by simp [nAcn,nude.nudeL,nude,nudeLL_map]
theorem num_encAcn (xs:List Acn):nude.nudeLL (xs.map nAcn)=true:=nudeLL_map _ nu_encAcn xs
@[go_sem] theorem st_encAcn (q:Ql)(xs:List Acn):(xs.map nAcn).map (fun x=>x.map (setTop q))=xs.map nAcn:=by rw [List.map_map];rfl
attribute [simp] sqm_encAcn ow_encAcn owm_encAcn fi_encAcn fim_encAcn nu_encAcn num_encAcn
attribute [go_sem] sqm_encAcn owm_encAcn fim_encAcn num_encAcn
@[go_sem] noncomputable def nLAc (q:Ql)(x:List Acn):List AV:=[.ts q 2 (x.map nAcn)]
@[go_sem] noncomputable def nTer (q:Ql)(x:Term):List AV:=[.ts q 4 (x.ranges.map nRan),.ts q 2 (x.path.map nReC),.int .i64 x.comm,.ts q 2 (x.acts.map nAcn),.int .i64 x.verdict]
theorem sq_encTerm (q q1:Ql)(x:Term):setQL q (nTer q1 x)=nTer q x:=by simp [nTer,sq_encRange,sq_encReCell,sq_encAcn]
theorem sqm_encTerm (q q1:Ql)(xs:List Term):setQLL q (xs.map (nTer q1))=xs.map (nTer q):=by rw [setQLL_map];exact List.map_congr_left (fun x _=>sq_encTerm q q1 x)
theorem ow_encTerm (x:Term):ownOnlyL (nTer .own x)=true:=by simp [nTer,ownOnlyL,ownOnly,ownLL_map]
theorem owm_encTerm (xs:List Term):ownOnlyLL (xs.map (nTer .own))=true:=ownLL_map _ ow_encTerm xs
theorem fi_encTerm (x:Term):fine.fineL (nTer .own x)=true:=by simp [nTer,fine.fineL,fine,fineLL_map]
theorem fim_encTerm (xs:List Term):fine.fineLL (xs.map (nTer .own))=true:=fineLL_map _ fi_encTerm xs
theorem nu_encTerm (x:Term):nude.nudeL (nTer .own x)=true:=by simp [nTer,nude.nudeL,nude,nudeLL_map]
theorem num_encTerm (xs:List Term):nude.nudeLL (xs.map (nTer .own))=true:=nudeLL_map _ nu_encTerm xs
@[go_sem] theorem st_encTerm (q q1:Ql)(xs:List Term):(xs.map (nTer q1)).map (fun x=>x.map (setTop q))=xs.map (nTer q):=by rw [List.map_map];rfl
attribute [simp] sqm_encTerm ow_encTerm owm_encTerm fi_encTerm fim_encTerm nu_encTerm num_encTerm
attribute [go_sem] sqm_encTerm owm_encTerm fim_encTerm num_encTerm
@[go_sem] noncomputable def nLTe (q:Ql)(x:List Term):List AV:=[.ts q 5 (x.map (nTer q))]
@[go_sem] noncomputable def nBoo (x:Bool):List AV:=[.bool x]
@[go_sem] noncomputable def nPol (q:Ql)(x:Policy):List AV:=[.ts q 5 (x.terms.map (nTer q)),.bool x.accept]
@[go_sem] noncomputable def nLIn (q:Ql)(x:List Int):List AV:=[.ts q 1 (x.map nInt)]
@[go_sem] noncomputable def nAtt (q:Ql)(x:Attrs):List AV:=[.int .i64 x.origin,.ts q 1 (x.path.map nInt),.int .i64 x.next,.int .i64 x.med,.int .i64 x.pref,.ts q 1 (x.comms.map nInt)]
@[go_sem] noncomputable def nRou (q:Ql)(x:Route):List AV:=[.int .i64 x.prefix_.addr,.int .i64 x.prefix_.len,.int .i64 x.attrs.origin,.ts q 1 (x.attrs.path.map nInt),.int .i64 x.attrs.next,.int .i64 x.attrs.med,.int .i64 x.attrs.pref,.ts q 1 (x.attrs.comms.map nInt)]
noncomputable def nl6T (q:Ql)(x:l6T):List AV:=l6T.rec (motive_1:=fun _=>List AV) (motive_2:=fun _=>List (List AV)) (fun kind_ n_ kids_ h_kids_=>[AV.int .i64 kind_,AV.int .i64 n_,AV.ts q 3 h_kids_]) [] (fun _ _ h1 h2=>h1::h2) x
theorem encml6T (q:Ql)(xs:List l6T):l6T.rec_1 (motive_1:=fun _=>List AV) (motive_2:=fun _=>List (List AV)) (fun kind_ n_ kids_ h_kids_=>[AV.int .i64 kind_,AV.int .i64 n_,AV.ts q 3 h_kids_]) [] (fun _ _ h1 h2=>h1::h2) xs=xs.map (nl6T q):=by
 induction xs with
 | nil=>rfl
 | cons x r ih=>rw [List.map_cons,←ih];rfl
theorem encel6T (q:Ql)(kind_:Int)(n_:Int)(kids_:List l6T):nl6T q (.mk kind_ n_ kids_)=[AV.int .i64 kind_,AV.int .i64 n_,AV.ts q 3 (kids_.map (nl6T q))]:=by
 show [AV.int .i64 kind_,AV.int .i64 n_,AV.ts q 3 (l6T.rec_1 (motive_1:=fun _=>List AV) (motive_2:=fun _=>List (List AV)) (fun kind_ n_ kids_ h_kids_=>[AV.int .i64 kind_,AV.int .i64 n_,AV.ts q 3 h_kids_]) [] (fun _ _ h1 h2=>h1::h2) kids_)]=_
 rw [encml6T]
theorem encxl6T (q:Ql)(x:l6T):nl6T q x=[AV.int .i64 x.kind_,AV.int .i64 x.n_,AV.ts q 3 (x.kids_.map (nl6T q))]:=by cases x;exact encel6T q _ _ _
theorem l6T.kind__mk (kind_:Int)(n_:Int)(kids_:List l6T):(l6T.mk kind_ n_ kids_).kind_=kind_:=rfl
theorem l6T.n__mk (kind_:Int)(n_:Int)(kids_:List l6T):(l6T.mk kind_ n_ kids_).n_=n_:=rfl
theorem l6T.kids__mk (kind_:Int)(n_:Int)(kids_:List l6T):(l6T.mk kind_ n_ kids_).kids_=kids_:=rfl
attribute [go_sem] encxl6T l6T.kind__mk l6T.n__mk l6T.kids__mk
theorem sq_encl6T':∀x:l6T,∀q q1:Ql,setQL q (nl6T q1 x)=nl6T q x:=by
 intro x
 refine l6T.rec (motive_1:=fun x=>∀q q1:Ql,setQL q (nl6T q1 x)=nl6T q x) (motive_2:=fun x=>∀q q1:Ql,setQLL q (x.map (nl6T q1))=x.map (nl6T q)) ?_ ?_ ?_ x
 · intro kind_ n_ kids_ h_kids_;intro q q1;rw [encel6T,encel6T];simp [h_kids_]
 · intro q q1;rfl
 · intro x r h1 h2;intro q q1;rw [List.map_cons,List.map_cons,gll_cons,h1,h2]
theorem sq_encl6T (q q1:Ql)(x:l6T):setQL q (nl6T q1 x)=nl6T q x:=sq_encl6T' x q q1
theorem sqm_encl6T (q q1:Ql)(xs:List l6T):setQLL q (xs.map (nl6T q1))=xs.map (nl6T q):=by rw [setQLL_map];exact List.map_congr_left (fun x _=>sq_encl6T q q1 x)
theorem ow_encl6T:∀x:l6T,ownOnlyL (nl6T .own x)=true:=by
 intro x
 refine l6T.rec (motive_1:=fun x=>ownOnlyL (nl6T .own x)=true) (motive_2:=fun x=>ownOnlyLL (x.map (nl6T .own))=true) ?_ ?_ ?_ x
 · intro kind_ n_ kids_ h_kids_;rw [encel6T];simp [ownOnlyL,ownOnly,h_kids_]
 · rfl
 · intro x r h1 h2;rw [List.map_cons];simp [ownOnlyLL,h1,h2]
theorem owm_encl6T (xs:List l6T):ownOnlyLL (xs.map (nl6T .own))=true:=ownLL_map _ ow_encl6T xs
attribute [simp] sqm_encl6T ow_encl6T owm_encl6T
attribute [go_sem] sqm_encl6T owm_encl6T
@[go_sem] noncomputable def nLl6 (q:Ql)(x:List l6T):List AV:=[.ts q 3 (x.map (nl6T q))]
noncomputable def npat (q:Ql)(x:pattern):List AV:=pattern.rec (motive_1:=fun _=>List AV) (motive_2:=fun _=>List (List AV)) (fun cell parts h_parts=>[AV.int .i64 cell.kind,AV.int .i64 cell.n,AV.ts q 1 h_parts]) [] (fun _ _ h1 h2=>[AV.tp q 3 [h1] 0 0]::h2) x
noncomputable def nPpa (q:Ql)(x:pattern):List AV:=[.tp q 3 [npat q x] 0 0]
theorem encmpattern (q:Ql)(xs:List pattern):pattern.rec_1 (motive_1:=fun _=>List AV) (motive_2:=fun _=>List (List AV)) (fun cell parts h_parts=>[AV.int .i64 cell.kind,AV.int .i64 cell.n,AV.ts q 1 h_parts]) [] (fun _ _ h1 h2=>[AV.tp q 3 [h1] 0 0]::h2) xs=xs.map (nPpa q):=by
 induction xs with
 | nil=>rfl
 | cons x r ih=>rw [List.map_cons,←ih];rfl
theorem encxpattern (q:Ql)(x:pattern):npat q x=[AV.int .i64 x.cell.kind,AV.int .i64 x.cell.n,AV.ts q 1 (x.parts.map (nPpa q))]:=by
 cases x with
 | mk cell parts=>show [AV.int .i64 cell.kind,AV.int .i64 cell.n,AV.ts q 1 (pattern.rec_1 (motive_1:=fun _=>List AV) (motive_2:=fun _=>List (List AV)) (fun cell parts h_parts=>[AV.int .i64 cell.kind,AV.int .i64 cell.n,AV.ts q 1 h_parts]) [] (fun _ _ h1 h2=>[AV.tp q 3 [h1] 0 0]::h2) parts)]=_;rw [encmpattern];rfl
theorem pattern.cell_mk (cell:ReCell)(parts:List pattern):(pattern.mk cell parts).cell=cell:=rfl
theorem pattern.parts_mk (cell:ReCell)(parts:List pattern):(pattern.mk cell parts).parts=parts:=rfl
attribute [go_sem] encxpattern pattern.cell_mk pattern.parts_mk
theorem sq_encpattern':∀x:pattern,∀q q1:Ql,setQL q (npat q1 x)=npat q x:=by
 intro x
 refine pattern.rec (motive_1:=fun x=>∀q q1:Ql,setQL q (npat q1 x)=npat q x) (motive_2:=fun xs=>∀q q1:Ql,setQLL q (xs.map (nPpa q1))=xs.map (nPpa q)) ?_ ?_ ?_ x
 · intro cell parts h_parts q q1;rw [encxpattern,encxpattern];simp [h_parts,pattern.cell_mk,pattern.parts_mk]
 · intro q q1;rfl
 · intro x r h1 h2 q q1;rw [List.map_cons,List.map_cons,gll_cons,h2];congr 1;simp only [nPpa];rw [setQL_cons,setQ_tp',gll_cons,h1];rfl
@[go_sem] theorem sq_encpattern (q q1:Ql)(x:pattern):setQL q (npat q1 x)=npat q x:=sq_encpattern' x q q1
attribute [go_sem] nPpa
theorem sq_encPpattern (q q1:Ql)(x:pattern):setQL q (nPpa q1 x)=nPpa q x:=by simp only [nPpa];rw [setQL_cons,setQ_tp',gll_cons,sq_encpattern];rfl
theorem sqm_encPpattern (q q1:Ql)(xs:List pattern):setQLL q (xs.map (nPpa q1))=xs.map (nPpa q):=by rw [setQLL_map];exact List.map_congr_left (fun x _=>sq_encPpattern q q1 x)
theorem fii_encPpattern (xs:List pattern):fine.fineLL (xs.map (nPpa .imm))=true:=fineLL_map _ (fun x=>by simp [nPpa,fine.fineL,fine]) xs
attribute [simp] sqm_encPpattern
attribute [go_sem] sqm_encPpattern fii_encPpattern
@[go_sem] noncomputable def nLPp (q:Ql)(x:List pattern):List AV:=[.ts q 1 (x.map (nPpa q))]
@[go_sem] theorem call69:CL 69 [[4],[0]]:=evCall0 fn69 rfl rfl rfl
theorem e69 (a0:List Range)(a1:Int)(r:Int)(h:m69 a0 a1=some r):evFL T 69 [.ts .imm 4 (a0.map nRan),nI a1] []=some (nI r,[]):=by
 unfold m69 at h;rw [evFL_at fn69 (Nat.le_of_ble_eq_true rfl) rfl (.inr rfl) ⟨rfl,rfl⟩]
 rcases brx h with ⟨b1,h⟩|⟨b1,h⟩
 · cases h;simp -implicitDefEqProofs only [go_sem,i69,c69,b1]
 · cases h;simp -implicitDefEqProofs only [go_sem,i69,c69,b1]
@[go_sem] theorem call70:CL 70 [[2],[0]]:=evCall0 fn70 rfl rfl rfl
theorem e70 (a0:List ReCell)(a1:Int)(r:Int)(h:m70 a0 a1=some r):evFL T 70 [.ts .imm 2 (a0.map nReC),nI a1] []=some (nI r,[]):=by
 unfold m70 at h;rw [evFL_at fn70 (Nat.le_of_ble_eq_true rfl) rfl (.inr rfl) ⟨rfl,rfl⟩]
 rcases brx h with ⟨b1,h⟩|⟨b1,h⟩
 · cases h;simp -implicitDefEqProofs only [go_sem,i70,c70,b1]
 · cases h;simp -implicitDefEqProofs only [go_sem,i70,c70,b1]
@[go_sem] theorem call71:CL 71 [[2],[0]]:=evCall0 fn71 rfl rfl rfl
theorem e71 (a0:List Acn)(a1:Int)(r:Int)(h:m71 a0 a1=some r):evFL T 71 [.ts .imm 2 (a0.map nAcn),nI a1] []=some (nI r,[]):=by
 unfold m71 at h;rw [evFL_at fn71 (Nat.le_of_ble_eq_true rfl) rfl (.inr rfl) ⟨rfl,rfl⟩]
 rcases brx h with ⟨b1,h⟩|⟨b1,h⟩
 · cases h;simp -implicitDefEqProofs only [go_sem,i71,c71,b1]
 · cases h;simp -implicitDefEqProofs only [go_sem,i71,c71,b1]
@[go_sem] theorem call45:CL 45 [[4,2,0,2,0],[0]]:=evCall0 fn45 rfl rfl rfl
theorem e45 (a0:Term)(a1:Int)(r:Int)(h:m45 a0 a1=some r):evFL T 45 [.agg (nTer .imm a0),nI a1] []=some (nI r,[]):=by
 unfold m45 at h;rw [evFL_at fn45 (Nat.le_of_ble_eq_true rfl) rfl (.inr rfl) ⟨rfl,rfl⟩];obtain ⟨r3,w2,h⟩:=bcall (e69 a0.ranges a1) h;try simp -implicitDefEqProofs only [go_sem] at w2
 rcases brx h with ⟨b4,h⟩|⟨b4,h⟩
 · obtain ⟨r7,w6,h⟩:=bcall (e70 a0.path r3) h;try simp -implicitDefEqProofs only [go_sem] at w6
   rcases brx h with ⟨b8,h⟩|⟨b8,h⟩
   · obtain ⟨r11,w10,h⟩:=bcall (e71 a0.acts r7) h;try simp -implicitDefEqProofs only [go_sem] at w10
     rcases brx h with ⟨b12,h⟩|⟨b12,h⟩
     · cases h;simp -implicitDefEqProofs only [go_sem,i45,c45,w2,b4,w6,b8,w10,b12]
     · cases h;simp -implicitDefEqProofs only [go_sem,i45,c45,w2,b4,w6,b8,w10,b12]
   · cases h;simp -implicitDefEqProofs only [go_sem,i45,c45,w2,b4,w6,b8]
 · cases h;simp -implicitDefEqProofs only [go_sem,i45,c45,w2,b4]
@[go_sem] theorem call23:CL 23 [[5],[0]]:=evCall0 fn23 rfl rfl rfl
noncomputable def X23_1 (a0:List Term)(o:(Int ⊕ Unit)):Ex×Fr×St :=
 match o with
 | .inl o=>(.exit 0,frOf 27 (upd anyF 1 (nI o)),[])
 | .inr o=>(.ret,frOf 27 (upd anyF 4 (nI (-1))),[])
noncomputable def E23_1 (a0:List Term)(s:(Int×Int)):Fr×St:=(frOf 27 (upd (upd (upd anyF 0 (.ts .imm 5 (a0.map (nTer .imm)))) 1 (nI s.1)) 5 (nI s.2)),[])
theorem b23_1 (a0:List Term)(s:(Int×Int))(o:Ctl (Int×Int) (Int ⊕ Unit))(h:m23_1b a0 s=some o):evCL T 0 k23_1b (E23_1 a0 s).1 (E23_1 a0 s).2=some (ctlX (E23_1 a0) (X23_1 a0) o):=by
 unfold m23_1b at h;obtain ⟨s13,s14⟩:=s;replace h:=sel2_some h
 rcases brx h with ⟨b15,h⟩|⟨b15,h⟩
 · cases h;simp -implicitDefEqProofs only [go_sem,E23_1,X23_1,k23_1b,b15]
 · obtain ⟨x16,g18,g19,g20,h⟩:=bidx (nTer .imm) h;obtain ⟨r23,w22,h⟩:=bcall (e45 x16 s13) h;try simp -implicitDefEqProofs only [go_sem] at g19 g20 w22
   rcases brx h with ⟨b24,h⟩|⟨b24,h⟩
   · cases h;simp -implicitDefEqProofs only [go_sem,E23_1,X23_1,k23_1b,b15,g18,g19,g20,w22,b24]
   · cases h;simp -implicitDefEqProofs only [go_sem,E23_1,X23_1,k23_1b,b15,g18,g19,g20,w22,b24]
theorem e23_1 (a0:List Term)(s:(Int×Int))(o:(Int ⊕ Unit))(h:loopP (m23_1b a0) s=some o):evCL T 0 (.loop k23_1b) (E23_1 a0 s).1 (E23_1 a0 s).2=some (X23_1 a0 o) :=
 loop_walk (E:=E23_1 a0) (X:=X23_1 a0) (by intro b;rcases b with b | b<;>(simp only [X23_1];nofun)) (b23_1 a0) s o h
theorem e23 (a0:List Term)(a1:Int)(r:Int)(h:m23 a0 a1=some r):evFL T 23 [.ts .imm 5 (a0.map (nTer .imm)),nI a1] []=some (nI r,[]):=by
 unfold m23 at h;rw [evFL_at fn23 (Nat.le_of_ble_eq_true rfl) rfl (.inr rfl) ⟨rfl,rfl⟩]
 rcases brx h with ⟨b1,h⟩|⟨b1,h⟩
 · (try simp -implicitDefEqProofs only [go_sem,i23,c23,b1]);obtain ⟨o,q25,h⟩:=bnd_some h
   rcases o with v27|⟨⟩
   · replace h:=selS_l h;have w26:=e23_1 a0 (wsub .i64 a1 (↑a0.length:Int),0) (.inl v27) q25;simp only [E23_1,X23_1] at w26;(try simp -implicitDefEqProofs only [go_sem] at w26);cases h;simp -implicitDefEqProofs only [go_sem,i23,c23,b1,w26]
   · replace h:=selS_r h;have w26:=e23_1 a0 (wsub .i64 a1 (↑a0.length:Int),0) (.inr ()) q25;simp only [E23_1,X23_1] at w26;(try simp -implicitDefEqProofs only [go_sem] at w26);cases h;simp -implicitDefEqProofs only [go_sem,i23,c23,b1,w26]
 · cases h;simp -implicitDefEqProofs only [go_sem,i23,c23,b1]
@[go_sem] theorem calls5 (args:List AV)(S:St):evCall (T.at true) (evFL T) 5 args S=lendC (evFL T 5) S (lendAll S [[5,0],[0]] args):=evCall0 fns5 rfl rfl rfl args S
theorem e5 (a0:Policy)(a1:Int)(r:Int)(h:m5 a0 a1=some r):evFL T 5 [.agg (nPol .imm a0),nI a1] []=some (nI r,[]):=by
 unfold m5 at h;rw [evFL_at fn5 (Nat.le_of_ble_eq_true rfl) rfl (.inr rfl) ⟨rfl,rfl⟩];obtain ⟨r3,w2,h⟩:=bcall (e23 a0.terms a1) h;try simp -implicitDefEqProofs only [go_sem] at w2
 rcases brx h with ⟨b4,h⟩|⟨b4,h⟩
 · cases h;simp -implicitDefEqProofs only [go_sem,i5,c5,w2,b4]
 · cases h;simp -implicitDefEqProofs only [go_sem,i5,c5,w2,b4]
@[go_sem] theorem call46:CL 46 [[1],[0]]:=evCall0 fn46 rfl rfl rfl
theorem e46 (a0:List Int)(a1:Int)(r:Int)(h:m46 a0 a1=some r):evFL T 46 [.ts .imm 1 (a0.map nInt),nI a1] []=some (nI r,[]):=by
 unfold m46 at h;rw [evFL_at fn46 (Nat.le_of_ble_eq_true rfl) rfl (.inr rfl) ⟨rfl,rfl⟩]
 rcases brx h with ⟨b1,h⟩|⟨b1,h⟩
 · cases h;simp -implicitDefEqProofs only [go_sem,i46,c46,b1]
 · cases h;simp -implicitDefEqProofs only [go_sem,i46,c46,b1]
@[go_sem] theorem call24:CL 24 [[0,1,0,0,0,1],[0]]:=evCall0 fn24 rfl rfl rfl
theorem e24 (a0:Attrs)(a1:Int)(r:Int)(h:m24 a0 a1=some r):evFL T 24 [.agg (nAtt .imm a0),nI a1] []=some (nI r,[]):=by
 unfold m24 at h;rw [evFL_at fn24 (Nat.le_of_ble_eq_true rfl) rfl (.inr rfl) ⟨rfl,rfl⟩];obtain ⟨r3,w2,h⟩:=bcall (e46 a0.path a1) h;try simp -implicitDefEqProofs only [go_sem] at w2
 rcases brx h with ⟨b4,h⟩|⟨b4,h⟩
 · obtain ⟨r7,w6,h⟩:=bcall (e46 a0.comms r3) h;try simp -implicitDefEqProofs only [go_sem] at w6
   rcases brx h with ⟨b8,h⟩|⟨b8,h⟩
   · cases h;simp -implicitDefEqProofs only [go_sem,i24,c24,w2,b4,w6,b8]
   · cases h;simp -implicitDefEqProofs only [go_sem,i24,c24,w2,b4,w6,b8]
 · cases h;simp -implicitDefEqProofs only [go_sem,i24,c24,w2,b4]
@[go_sem] theorem calls6 (args:List AV)(S:St):evCall (T.at true) (evFL T) 6 args S=lendC (evFL T 6) S (lendAll S [[0,0,0,1,0,0,0,1],[0]] args):=evCall0 fns6 rfl rfl rfl args S
theorem e6 (a0:Route)(a1:Int)(r:Int)(h:m6 a0 a1=some r):evFL T 6 [.agg (nRou .imm a0),nI a1] []=some (nI r,[]):=by
 unfold m6 at h;rw [evFL_at fn6 (Nat.le_of_ble_eq_true rfl) rfl (.inr rfl) ⟨rfl,rfl⟩];obtain ⟨r3,w2,h⟩:=bcall (e24 a0.attrs a1) h;try simp -implicitDefEqProofs only [go_sem] at w2
 rcases brx h with ⟨b4,h⟩|⟨b4,h⟩
 · cases h;simp -implicitDefEqProofs only [go_sem,i6,c6,w2,b4]
 · cases h;simp -implicitDefEqProofs only [go_sem,i6,c6,w2,b4]
@[go_sem] theorem call30:CL 30 [[0,0]]:=evCall0 fn30 rfl rfl rfl
theorem e30 (a0:Prefix)(r:Prefix)(h:m30 a0=some r):evFL T 30 [.agg (nPre a0)] []=some (.agg (nPre r),[]):=by
 unfold m30 at h;rw [evFL_at fn30 (Nat.le_of_ble_eq_true rfl) rfl (.inr rfl) ⟨rfl,rfl⟩];cases h;simp -implicitDefEqProofs only [go_sem,i30,c30]
@[go_sem] theorem call113:CL 113 [[0,0,0,0]]:=evCall0 fn113 rfl rfl rfl
theorem e113 (a0:Range)(r:Range)(h:m113 a0=some r):evFL T 113 [.agg (nRan a0)] []=some (.agg (nRan r),[]):=by
 unfold m113 at h;rw [evFL_at fn113 (Nat.le_of_ble_eq_true rfl) rfl (.inr rfl) ⟨rfl,rfl⟩];obtain ⟨r3,w2,h⟩:=bcall (e30 a0.prefix_) h;(try simp -implicitDefEqProofs only [go_sem] at w2);cases h;simp -implicitDefEqProofs only [go_sem,i113,c113,w2]
@[go_sem] theorem call81:CL 81 [[4]]:=evCall0 fn81 rfl rfl rfl
noncomputable def X81_1 (a0:List Range)(o:List Range):Ex×Fr×St :=
 (.exit 0,frOf 23 (upd anyF 3 (.sl 0 0 o.length)),[some ⟨.arr,4,o.map nRan⟩])
noncomputable def E81_1 (a0:List Range)(s:(Int×List Range)):Fr×St:=(frOf 23 (upd (upd (upd anyF 0 (.ts .imm 4 (a0.map nRan))) 3 (.sl 0 0 s.2.length)) 4 (nI s.1)),[some ⟨.arr,4,s.2.map nRan⟩])
theorem b81_1 (a0:List Range)(s:(Int×List Range))(o:Ctl (Int×List Range) (List Range))(h:m81_1b a0 s=some o):evCL T 0 k81_1b (E81_1 a0 s).1 (E81_1 a0 s).2=some (ctlX (E81_1 a0) (X81_1 a0) o):=by
 unfold m81_1b at h;obtain ⟨s17,s18⟩:=s;replace h:=sel2_some h
 rcases brx h with ⟨b19,h⟩|⟨b19,h⟩
 · cases h;simp -implicitDefEqProofs only [go_sem,E81_1,X81_1,k81_1b,b19]
 · obtain ⟨x20,g22,g23,g24,h⟩:=bidx nRan h;obtain ⟨r27,w26,h⟩:=bcall (e113 x20) h;obtain ⟨x28,g30,g31,g32,h⟩:=bidx nRan h;(try simp -implicitDefEqProofs only [go_sem] at g23 g24 w26 g31 g32);cases h;simp -implicitDefEqProofs only [go_sem,E81_1,X81_1,k81_1b,b19,g22,g23,g24,w26,g30,g31,g32]
theorem e81_1 (a0:List Range)(s:(Int×List Range))(o:List Range)(h:loopP (m81_1b a0) s=some o):evCL T 0 (.loop k81_1b) (E81_1 a0 s).1 (E81_1 a0 s).2=some (X81_1 a0 o) :=
 loop_walk (E:=E81_1 a0) (X:=X81_1 a0) (by intro b;(simp only [X81_1];nofun)) (b81_1 a0) s o h
theorem e81 (a0:List Range)(r:List Range)(h:m81 a0=some r):evFL T 81 [.ts .imm 4 (a0.map nRan)] []=some (.sl 0 0 r.length,[some ⟨.arr,4,r.map nRan⟩]):=by
 unfold m81 at h;rw [evFL_at fn81 (Nat.le_of_ble_eq_true rfl) rfl (.inr rfl) ⟨rfl,rfl⟩];obtain ⟨g1,h⟩:=ck_some h;obtain ⟨v35,w34,h⟩:=bcall (e81_1 a0 (0,List.replicate a0.length (⟨(⟨0,0⟩:Prefix),0,0⟩:Range))) h;(try simp -implicitDefEqProofs only [go_sem] at g1);simp only [E81_1,X81_1] at w34;(try simp -implicitDefEqProofs only [go_sem] at w34);cases h;simp -implicitDefEqProofs only [go_sem,i81,c81,g1,w34]
@[go_sem] theorem call114:CL 114 [[0,0]]:=evCall0 fn114 rfl rfl rfl
theorem e114 (a0:ReCell)(r:ReCell)(h:m114 a0=some r):evFL T 114 [.agg [nI a0.kind,nI a0.n]] []=some (.agg [nI r.kind,nI r.n],[]):=by
 unfold m114 at h;rw [evFL_at fn114 (Nat.le_of_ble_eq_true rfl) rfl (.inr rfl) ⟨rfl,rfl⟩];cases h;simp -implicitDefEqProofs only [go_sem,i114,c114]
@[go_sem] theorem call82:CL 82 [[2]]:=evCall0 fn82 rfl rfl rfl
noncomputable def X82_1 (a0:List ReCell)(o:List ReCell):Ex×Fr×St :=
 (.exit 0,frOf 23 (upd anyF 3 (.sl 0 0 o.length)),[some ⟨.arr,2,o.map nReC⟩])
noncomputable def E82_1 (a0:List ReCell)(s:(Int×List ReCell)):Fr×St:=(frOf 23 (upd (upd (upd anyF 0 (.ts .imm 2 (a0.map nReC))) 3 (.sl 0 0 s.2.length)) 4 (nI s.1)),[some ⟨.arr,2,s.2.map nReC⟩])
theorem b82_1 (a0:List ReCell)(s:(Int×List ReCell))(o:Ctl (Int×List ReCell) (List ReCell))(h:m82_1b a0 s=some o):evCL T 0 k82_1b (E82_1 a0 s).1 (E82_1 a0 s).2=some (ctlX (E82_1 a0) (X82_1 a0) o):=by
 unfold m82_1b at h;obtain ⟨s17,s18⟩:=s;replace h:=sel2_some h
 rcases brx h with ⟨b19,h⟩|⟨b19,h⟩
 · cases h;simp -implicitDefEqProofs only [go_sem,E82_1,X82_1,k82_1b,b19]
 · obtain ⟨x20,g22,g23,g24,h⟩:=bidx nReC h;obtain ⟨r27,w26,h⟩:=bcall (e114 x20) h;obtain ⟨x28,g30,g31,g32,h⟩:=bidx nReC h;(try simp -implicitDefEqProofs only [go_sem] at g23 g24 w26 g31 g32);cases h;simp -implicitDefEqProofs only [go_sem,E82_1,X82_1,k82_1b,b19,g22,g23,g24,w26,g30,g31,g32]
theorem e82_1 (a0:List ReCell)(s:(Int×List ReCell))(o:List ReCell)(h:loopP (m82_1b a0) s=some o):evCL T 0 (.loop k82_1b) (E82_1 a0 s).1 (E82_1 a0 s).2=some (X82_1 a0 o) :=
 loop_walk (E:=E82_1 a0) (X:=X82_1 a0) (by intro b;(simp only [X82_1];nofun)) (b82_1 a0) s o h
theorem e82 (a0:List ReCell)(r:List ReCell)(h:m82 a0=some r):evFL T 82 [.ts .imm 2 (a0.map nReC)] []=some (.sl 0 0 r.length,[some ⟨.arr,2,r.map nReC⟩]):=by
 unfold m82 at h;rw [evFL_at fn82 (Nat.le_of_ble_eq_true rfl) rfl (.inr rfl) ⟨rfl,rfl⟩];obtain ⟨g1,h⟩:=ck_some h;obtain ⟨v35,w34,h⟩:=bcall (e82_1 a0 (0,List.replicate a0.length (⟨0,0⟩:ReCell))) h;(try simp -implicitDefEqProofs only [go_sem] at g1);simp only [E82_1,X82_1] at w34;(try simp -implicitDefEqProofs only [go_sem] at w34);cases h;simp -implicitDefEqProofs only [go_sem,i82,c82,g1,w34]
@[go_sem] theorem call115:CL 115 [[0,0]]:=evCall0 fn115 rfl rfl rfl
theorem e115 (a0:Acn)(r:Acn)(h:m115 a0=some r):evFL T 115 [.agg [nI a0.kind,nI a0.n]] []=some (.agg [nI r.kind,nI r.n],[]):=by
 unfold m115 at h;rw [evFL_at fn115 (Nat.le_of_ble_eq_true rfl) rfl (.inr rfl) ⟨rfl,rfl⟩];cases h;simp -implicitDefEqProofs only [go_sem,i115,c115]
@[go_sem] theorem call83:CL 83 [[2]]:=evCall0 fn83 rfl rfl rfl
noncomputable def X83_1 (a0:List Acn)(o:List Acn):Ex×Fr×St :=
 (.exit 0,frOf 23 (upd anyF 3 (.sl 0 0 o.length)),[some ⟨.arr,2,o.map nAcn⟩])
noncomputable def E83_1 (a0:List Acn)(s:(Int×List Acn)):Fr×St:=(frOf 23 (upd (upd (upd anyF 0 (.ts .imm 2 (a0.map nAcn))) 3 (.sl 0 0 s.2.length)) 4 (nI s.1)),[some ⟨.arr,2,s.2.map nAcn⟩])
theorem b83_1 (a0:List Acn)(s:(Int×List Acn))(o:Ctl (Int×List Acn) (List Acn))(h:m83_1b a0 s=some o):evCL T 0 k83_1b (E83_1 a0 s).1 (E83_1 a0 s).2=some (ctlX (E83_1 a0) (X83_1 a0) o):=by
 unfold m83_1b at h;obtain ⟨s17,s18⟩:=s;replace h:=sel2_some h
 rcases brx h with ⟨b19,h⟩|⟨b19,h⟩
 · cases h;simp -implicitDefEqProofs only [go_sem,E83_1,X83_1,k83_1b,b19]
 · obtain ⟨x20,g22,g23,g24,h⟩:=bidx nAcn h;obtain ⟨r27,w26,h⟩:=bcall (e115 x20) h;obtain ⟨x28,g30,g31,g32,h⟩:=bidx nAcn h;(try simp -implicitDefEqProofs only [go_sem] at g23 g24 w26 g31 g32);cases h;simp -implicitDefEqProofs only [go_sem,E83_1,X83_1,k83_1b,b19,g22,g23,g24,w26,g30,g31,g32]
theorem e83_1 (a0:List Acn)(s:(Int×List Acn))(o:List Acn)(h:loopP (m83_1b a0) s=some o):evCL T 0 (.loop k83_1b) (E83_1 a0 s).1 (E83_1 a0 s).2=some (X83_1 a0 o) :=
 loop_walk (E:=E83_1 a0) (X:=X83_1 a0) (by intro b;(simp only [X83_1];nofun)) (b83_1 a0) s o h
theorem e83 (a0:List Acn)(r:List Acn)(h:m83 a0=some r):evFL T 83 [.ts .imm 2 (a0.map nAcn)] []=some (.sl 0 0 r.length,[some ⟨.arr,2,r.map nAcn⟩]):=by
 unfold m83 at h;rw [evFL_at fn83 (Nat.le_of_ble_eq_true rfl) rfl (.inr rfl) ⟨rfl,rfl⟩];obtain ⟨g1,h⟩:=ck_some h;obtain ⟨v35,w34,h⟩:=bcall (e83_1 a0 (0,List.replicate a0.length (⟨0,0⟩:Acn))) h;(try simp -implicitDefEqProofs only [go_sem] at g1);simp only [E83_1,X83_1] at w34;(try simp -implicitDefEqProofs only [go_sem] at w34);cases h;simp -implicitDefEqProofs only [go_sem,i83,c83,g1,w34]
@[go_sem] theorem call53:CL 53 [[4,2,0,2,0]]:=evCall0 fn53 rfl rfl rfl
theorem e53 (a0:Term)(r:Term)(h:m53 a0=some r):evFL T 53 [.agg (nTer .imm a0)] []=some (.agg [.sl 0 0 r.ranges.length,.sl 1 0 r.path.length,nI r.comm,.sl 2 0 r.acts.length,nI r.verdict],[some ⟨.arr,4,r.ranges.map nRan⟩,some ⟨.arr,2,r.path.map nReC⟩,some ⟨.arr,2,r.acts.map nAcn⟩]):=by
 unfold m53 at h;rw [evFL_at fn53 (Nat.le_of_ble_eq_true rfl) rfl (.inr rfl) ⟨rfl,rfl⟩];obtain ⟨r3,w2,h⟩:=bcall (e81 a0.ranges) h;obtain ⟨r6,w5,h⟩:=bcall (e82 a0.path) h;obtain ⟨r9,w8,h⟩:=bcall (e83 a0.acts) h;(try simp -implicitDefEqProofs only [go_sem] at w2 w5 w8);cases h;simp -implicitDefEqProofs only [go_sem,i53,c53,w2,w5,w8]
@[go_sem] theorem call29:CL 29 [[5]]:=evCall0 fn29 rfl rfl rfl
noncomputable def X29_1 (a0:List Term)(o:List Term):Ex×Fr×St :=
 (.exit 0,frOf 23 (upd anyF 3 (.sl 0 0 o.length)),[some ⟨.arr,5,o.map (nTer .own)⟩])
noncomputable def E29_1 (a0:List Term)(s:(Int×List Term)):Fr×St:=(frOf 23 (upd (upd (upd anyF 0 (.ts .imm 5 (a0.map (nTer .imm)))) 3 (.sl 0 0 s.2.length)) 4 (nI s.1)),[some ⟨.arr,5,s.2.map (nTer .own)⟩])
theorem b29_1 (a0:List Term)(s:(Int×List Term))(o:Ctl (Int×List Term) (List Term))(h:m29_1b a0 s=some o):evCL T 0 k29_1b (E29_1 a0 s).1 (E29_1 a0 s).2=some (ctlX (E29_1 a0) (X29_1 a0) o):=by
 unfold m29_1b at h;obtain ⟨s17,s18⟩:=s;replace h:=sel2_some h
 rcases brx h with ⟨b19,h⟩|⟨b19,h⟩
 · cases h;simp -implicitDefEqProofs only [go_sem,E29_1,X29_1,k29_1b,b19]
 · obtain ⟨x20,g22,g23,g24,h⟩:=bidx (nTer .imm) h;obtain ⟨r27,w26,h⟩:=bcall (e53 x20) h;obtain ⟨x28,g30,g31,g32,h⟩:=bidx (nTer .own) h;(try simp -implicitDefEqProofs only [go_sem] at g23 g24 w26 g31 g32);cases h;simp -implicitDefEqProofs only [go_sem,E29_1,X29_1,k29_1b,b19,g22,g23,g24,w26,g30,g31,g32]
theorem e29_1 (a0:List Term)(s:(Int×List Term))(o:List Term)(h:loopP (m29_1b a0) s=some o):evCL T 0 (.loop k29_1b) (E29_1 a0 s).1 (E29_1 a0 s).2=some (X29_1 a0 o) :=
 loop_walk (E:=E29_1 a0) (X:=X29_1 a0) (by intro b;(simp only [X29_1];nofun)) (b29_1 a0) s o h
theorem e29 (a0:List Term)(r:List Term)(h:m29 a0=some r):evFL T 29 [.ts .imm 5 (a0.map (nTer .imm))] []=some (.sl 0 0 r.length,[some ⟨.arr,5,r.map (nTer .own)⟩]):=by
 unfold m29 at h;rw [evFL_at fn29 (Nat.le_of_ble_eq_true rfl) rfl (.inr rfl) ⟨rfl,rfl⟩];obtain ⟨g1,h⟩:=ck_some h;obtain ⟨v35,w34,h⟩:=bcall (e29_1 a0 (0,List.replicate a0.length (⟨[],[],0,[],0⟩:Term))) h;(try simp -implicitDefEqProofs only [go_sem] at g1);simp only [E29_1,X29_1] at w34;(try simp -implicitDefEqProofs only [go_sem] at w34);cases h;simp -implicitDefEqProofs only [go_sem,i29,c29,g1,w34]
theorem calls8 (args:List AV)(S:St):evCall (T.at true) (evFL T) 8 args S=lendC (evFL T 8) S (lendAll S [[5,0]] args):=evCall0 fns8 rfl rfl rfl args S
theorem callsz8 (args:List AV)(S:St):evCallFz (T.at true) (evFL T) 8 args S=lendZ (evFL T 8) S [[5,0]] (lendAll S [[5,0]] args):=evCallFz0 fns8 rfl rfl rfl args S
attribute [go_sem] calls8 callsz8
theorem e8 (a0:Policy)(r:Policy)(h:m8 a0=some r):evFL T 8 [.agg (nPol .imm a0)] []=some (.agg [.sl 0 0 r.terms.length,.bool r.accept],[some ⟨.arr,5,r.terms.map (nTer .own)⟩]):=by
 unfold m8 at h;rw [evFL_at fn8 (Nat.le_of_ble_eq_true rfl) rfl (.inr rfl) ⟨rfl,rfl⟩];obtain ⟨r3,w2,h⟩:=bcall (e29 a0.terms) h;(try simp -implicitDefEqProofs only [go_sem] at w2);cases h;simp -implicitDefEqProofs only [go_sem,i8,c8,w2]
@[go_sem] theorem call54:CL 54 [[1]]:=evCall0 fn54 rfl rfl rfl
noncomputable def X54_1 (a0:List Int)(o:List Int):Ex×Fr×St :=
 (.exit 0,frOf 22 (upd anyF 3 (.sl 0 0 o.length)),[some ⟨.arr,1,o.map nInt⟩])
noncomputable def E54_1 (a0:List Int)(s:(Int×List Int)):Fr×St:=(frOf 22 (upd (upd (upd anyF 0 (.ts .imm 1 (a0.map nInt))) 3 (.sl 0 0 s.2.length)) 4 (nI s.1)),[some ⟨.arr,1,s.2.map nInt⟩])
theorem b54_1 (a0:List Int)(s:(Int×List Int))(o:Ctl (Int×List Int) (List Int))(h:m54_1b a0 s=some o):evCL T 0 k54_1b (E54_1 a0 s).1 (E54_1 a0 s).2=some (ctlX (E54_1 a0) (X54_1 a0) o):=by
 unfold m54_1b at h;obtain ⟨s14,s15⟩:=s;replace h:=sel2_some h
 rcases brx h with ⟨b16,h⟩|⟨b16,h⟩
 · cases h;simp -implicitDefEqProofs only [go_sem,E54_1,X54_1,k54_1b,b16]
 · obtain ⟨x17,g19,g20,g21,h⟩:=bidx nInt h;obtain ⟨x22,g24,g25,g26,h⟩:=bidx nInt h;(try simp -implicitDefEqProofs only [go_sem] at g20 g21 g25 g26);cases h;simp -implicitDefEqProofs only [go_sem,E54_1,X54_1,k54_1b,b16,g19,g20,g21,g24,g25,g26]
theorem e54_1 (a0:List Int)(s:(Int×List Int))(o:List Int)(h:loopP (m54_1b a0) s=some o):evCL T 0 (.loop k54_1b) (E54_1 a0 s).1 (E54_1 a0 s).2=some (X54_1 a0 o) :=
 loop_walk (E:=E54_1 a0) (X:=X54_1 a0) (by intro b;(simp only [X54_1];nofun)) (b54_1 a0) s o h
theorem e54 (a0:List Int)(r:List Int)(h:m54 a0=some r):evFL T 54 [.ts .imm 1 (a0.map nInt)] []=some (.sl 0 0 r.length,[some ⟨.arr,1,r.map nInt⟩]):=by
 unfold m54 at h;rw [evFL_at fn54 (Nat.le_of_ble_eq_true rfl) rfl (.inr rfl) ⟨rfl,rfl⟩];obtain ⟨g1,h⟩:=ck_some h;obtain ⟨v29,w28,h⟩:=bcall (e54_1 a0 (0,List.replicate a0.length 0)) h;(try simp -implicitDefEqProofs only [go_sem] at g1);simp only [E54_1,X54_1] at w28;(try simp -implicitDefEqProofs only [go_sem] at w28);cases h;simp -implicitDefEqProofs only [go_sem,i54,c54,g1,w28]
@[go_sem] theorem call31:CL 31 [[0,1,0,0,0,1]]:=evCall0 fn31 rfl rfl rfl
theorem e31 (a0:Attrs)(r:Attrs)(h:m31 a0=some r):evFL T 31 [.agg (nAtt .imm a0)] []=some (.agg [nI r.origin,.sl 0 0 r.path.length,nI r.next,nI r.med,nI r.pref,.sl 1 0 r.comms.length],[some ⟨.arr,1,r.path.map nInt⟩,some ⟨.arr,1,r.comms.map nInt⟩]):=by
 unfold m31 at h;rw [evFL_at fn31 (Nat.le_of_ble_eq_true rfl) rfl (.inr rfl) ⟨rfl,rfl⟩];obtain ⟨r3,w2,h⟩:=bcall (e54 a0.path) h;obtain ⟨r6,w5,h⟩:=bcall (e54 a0.comms) h;(try simp -implicitDefEqProofs only [go_sem] at w2 w5);cases h;simp -implicitDefEqProofs only [go_sem,i31,c31,w2,w5]
theorem calls9 (args:List AV)(S:St):evCall (T.at true) (evFL T) 9 args S=lendC (evFL T 9) S (lendAll S [[0,0,0,1,0,0,0,1]] args):=evCall0 fns9 rfl rfl rfl args S
theorem callsz9 (args:List AV)(S:St):evCallFz (T.at true) (evFL T) 9 args S=lendZ (evFL T 9) S [[0,0,0,1,0,0,0,1]] (lendAll S [[0,0,0,1,0,0,0,1]] args):=evCallFz0 fns9 rfl rfl rfl args S
attribute [go_sem] calls9 callsz9
theorem e9 (a0:Route)(r:Route)(h:m9 a0=some r):evFL T 9 [.agg (nRou .imm a0)] []=some (.agg [nI r.prefix_.addr,nI r.prefix_.len,nI r.attrs.origin,.sl 0 0 r.attrs.path.length,nI r.attrs.next,nI r.attrs.med,nI r.attrs.pref,.sl 1 0 r.attrs.comms.length],[some ⟨.arr,1,r.attrs.path.map nInt⟩,some ⟨.arr,1,r.attrs.comms.map nInt⟩]):=by
 unfold m9 at h;rw [evFL_at fn9 (Nat.le_of_ble_eq_true rfl) rfl (.inr rfl) ⟨rfl,rfl⟩];obtain ⟨r3,w2,h⟩:=bcall (e30 a0.prefix_) h;obtain ⟨r6,w5,h⟩:=bcall (e31 a0.attrs) h;(try simp -implicitDefEqProofs only [go_sem] at w2 w5);cases h;simp -implicitDefEqProofs only [go_sem,i9,c9,w2,w5]
theorem call72:CL 72 [[0],[0],[0]]:=evCall0 fn72 rfl rfl rfl
theorem callz72:CZ 72 [[0]] [[0],[0],[0]]:=evCallFz0 fn72 rfl rfl rfl
attribute [go_sem] call72 callz72
noncomputable def X72_1 (a0:Int)(a1:Int)(a2:Int)(o:Bool):Ex×Fr×St :=
 (.normal,frOf 15 (upd anyF 6 (.bool o)),[])
theorem e72_1 (a0:Int)(a1:Int)(a2:Int)(o:Bool)(h:m72_1 a0 a1 a2=some o):evCL T 0 k72_1 (frOf 15 (upd (upd (upd anyF 0 (nI a0)) 1 (nI a1)) 2 (nI a2))) []=some (X72_1 a0 a1 a2 o):=by
 unfold m72_1 at h
 rcases brx h with ⟨b1,h⟩|⟨b1,h⟩
 · cases h;simp -implicitDefEqProofs only [go_sem,X72_1,k72_1,b1]
 · cases h;simp -implicitDefEqProofs only [go_sem,X72_1,k72_1,b1]
theorem e72 (a0:Int)(a1:Int)(a2:Int)(r:Bool)(h:m72 a0 a1 a2=some r):evFL T 72 [nI a0,nI a1,nI a2] []=some (.bool r,[]):=by
 unfold m72 at h;rw [evFL_at fn72 (Nat.le_of_ble_eq_true rfl) rfl (.inr rfl) ⟨rfl,rfl⟩];obtain ⟨v4,w3,h⟩:=bcall (e72_1 a0 a1 a2) h;simp only [X72_1] at w3;(try simp -implicitDefEqProofs only [go_sem] at w3);cases h;simp -implicitDefEqProofs only [go_sem,i72,c72,w3]
theorem call75:CL 75 [[0]]:=evCall0 fn75 rfl rfl rfl
theorem callz75:CZ 75 [[0]] [[0]]:=evCallFz0 fn75 rfl rfl rfl
attribute [go_sem] call75 callz75
theorem e75 (a0:Int)(r:Bool)(h:m75 a0=some r):evFL T 75 [nI a0] []=some (.bool r,[]):=by
 unfold m75 at h;rw [evFL_at fn75 (Nat.le_of_ble_eq_true rfl) rfl (.inr rfl) ⟨rfl,rfl⟩];obtain ⟨r3,w2,h⟩:=bcall (e72 a0 0 4294967295) h;(try simp -implicitDefEqProofs only [go_sem] at w2);cases h;simp -implicitDefEqProofs only [go_sem,i75,c75,w2]
@[go_sem] theorem callz76:CZ 76 [[0]] [[0,0]]:=evCallFz0 fn76 rfl rfl rfl
theorem e76 (a0:Prefix)(r:Int)(h:m76 a0=some r):evFL T 76 [.agg (nPre a0)] []=some (nI r,[]):=by
 unfold m76 at h;rw [evFL_at fn76 (Nat.le_of_ble_eq_true rfl) rfl (.inr rfl) ⟨rfl,rfl⟩];obtain ⟨g1,h⟩:=ck_some h;(try simp -implicitDefEqProofs only [go_sem] at g1);cases h;simp -implicitDefEqProofs only [go_sem,i76,c76,g1]
@[go_sem] theorem call48:CL 48 [[0,0]]:=evCall0 fn48 rfl rfl rfl
noncomputable def X48_1 (a0:Prefix)(o:Bool):Ex×Fr×St :=
 (.normal,frOf 19 (upd anyF 2 (.bool o)),[])
theorem e48_1 (a0:Prefix)(o:Bool)(h:m48_1 a0=some o):evCL T 0 k48_1 (frOf 19 (upd anyF 1 (.ptr 0 0 0))) [some ⟨.box,2,[(nPre a0)]⟩]=some (X48_1 a0 o):=by
 unfold m48_1 at h;obtain ⟨r3,w2,h⟩:=bcall (e72 a0.len 0 32) h;try simp -implicitDefEqProofs only [go_sem] at w2
 rcases brx h with ⟨b4,h⟩|⟨b4,h⟩
 · cases h;simp -implicitDefEqProofs only [go_sem,X48_1,k48_1,w2,b4]
 · obtain ⟨r7,w6,h⟩:=bcall (e75 a0.addr) h;try simp -implicitDefEqProofs only [go_sem] at w6
   rcases brx h with ⟨b8,h⟩|⟨b8,h⟩
   · cases h;simp -implicitDefEqProofs only [go_sem,X48_1,k48_1,w2,b4,w6,b8]
   · obtain ⟨r11,w10,h⟩:=bcall (e76 a0) h;(try simp -implicitDefEqProofs only [go_sem] at w10);obtain ⟨g12,h⟩:=ck_some h;(try simp -implicitDefEqProofs only [go_sem] at g12);cases h;simp -implicitDefEqProofs only [go_sem,X48_1,k48_1,w2,b4,w6,b8,w10,g12]
theorem e48 (a0:Prefix)(r:Bool)(h:m48 a0=some r):evFL T 48 [.agg (nPre a0)] []=some (.bool r,[]):=by
 unfold m48 at h;rw [evFL_at fn48 (Nat.le_of_ble_eq_true rfl) rfl (.inr rfl) ⟨rfl,rfl⟩];obtain ⟨v15,w14,h⟩:=bcall (e48_1 a0) h;simp only [X48_1] at w14;(try simp -implicitDefEqProofs only [go_sem] at w14);cases h;simp -implicitDefEqProofs only [go_sem,i48,c48,w14]
@[go_sem] theorem call73:CL 73 [[0,0]]:=evCall0 fn73 rfl rfl rfl
noncomputable def X73_3 (a0:Acn)(p5:Bool)(o:Bool):Ex×Fr×St :=
 (.normal,frOf 21 (upd (upd anyF 1 (.ptr 0 0 0)) 5 (.bool o)),[some ⟨.box,2,[[nI a0.kind,nI a0.n]]⟩])
theorem e73_3 (a0:Acn)(p5:Bool)(o:Bool)(h:m73_3 a0 p5=some o):evCL T 0 k73_3 (frOf 21 (upd (upd (upd anyF 1 (.ptr 0 0 0)) 4 (nI a0.kind)) 5 (.bool p5))) [some ⟨.box,2,[[nI a0.kind,nI a0.n]]⟩]=some (X73_3 a0 p5 o):=by
 unfold m73_3 at h
 rcases brx h with ⟨b6,h⟩|⟨b6,h⟩
 · cases h;simp -implicitDefEqProofs only [go_sem,X73_3,k73_3,b6]
 · cases h;simp -implicitDefEqProofs only [go_sem,X73_3,k73_3,b6]
noncomputable def X73_2 (a0:Acn)(p3:Bool)(o:Bool):Ex×Fr×St :=
 (.normal,frOf 21 (upd (upd anyF 1 (.ptr 0 0 0)) 5 (.bool o)),[some ⟨.box,2,[[nI a0.kind,nI a0.n]]⟩])
theorem e73_2 (a0:Acn)(p3:Bool)(o:Bool)(h:m73_2 a0 p3=some o):evCL T 0 k73_2 (frOf 21 (upd (upd (upd anyF 1 (.ptr 0 0 0)) 4 (nI a0.kind)) 5 (.bool p3))) [some ⟨.box,2,[[nI a0.kind,nI a0.n]]⟩]=some (X73_2 a0 p3 o):=by
 unfold m73_2 at h
 rcases brx h with ⟨b4,h⟩|⟨b4,h⟩
 · obtain ⟨v9,w8,h⟩:=bcall (e73_3 a0 (eqI a0.kind 3)) h;simp only [X73_3] at w8;(try simp -implicitDefEqProofs only [go_sem] at w8);cases h;simp -implicitDefEqProofs only [go_sem,X73_2,k73_2,b4,w8]
 · cases h;simp -implicitDefEqProofs only [go_sem,X73_2,k73_2,b4]
noncomputable def X73_1 (a0:Acn)(p1:Bool)(o:Bool):Ex×Fr×St :=
 (.normal,frOf 21 (upd (upd anyF 1 (.ptr 0 0 0)) 5 (.bool o)),[some ⟨.box,2,[[nI a0.kind,nI a0.n]]⟩])
theorem e73_1 (a0:Acn)(p1:Bool)(o:Bool)(h:m73_1 a0 p1=some o):evCL T 0 k73_1 (frOf 21 (upd (upd (upd anyF 1 (.ptr 0 0 0)) 4 (nI a0.kind)) 5 (.bool p1))) [some ⟨.box,2,[[nI a0.kind,nI a0.n]]⟩]=some (X73_1 a0 p1 o):=by
 unfold m73_1 at h
 rcases brx h with ⟨b2,h⟩|⟨b2,h⟩
 · obtain ⟨v12,w11,h⟩:=bcall (e73_2 a0 (eqI a0.kind 2)) h;simp only [X73_2] at w11;(try simp -implicitDefEqProofs only [go_sem] at w11);cases h;simp -implicitDefEqProofs only [go_sem,X73_1,k73_1,b2,w11]
 · cases h;simp -implicitDefEqProofs only [go_sem,X73_1,k73_1,b2]
noncomputable def X73_4 (a0:Acn)(o:Bool):Ex×Fr×St :=
 (.normal,frOf 21 (upd anyF 2 (.bool o)),[])
theorem e73_4 (a0:Acn)(o:Bool)(h:m73_4 a0=some o):evCL T 0 k73_4 (frOf 21 (upd anyF 1 (.ptr 0 0 0))) [some ⟨.box,2,[[nI a0.kind,nI a0.n]]⟩]=some (X73_4 a0 o):=by
 unfold m73_4 at h
 rcases brx h with ⟨b20,h⟩|⟨b20,h⟩
 · cases h;simp -implicitDefEqProofs only [go_sem,X73_4,k73_4,b20]
 · obtain ⟨r23,w22,h⟩:=bcall (e72 a0.n 1 65535) h;(try simp -implicitDefEqProofs only [go_sem] at w22);cases h;simp -implicitDefEqProofs only [go_sem,X73_4,k73_4,b20,w22]
theorem e73 (a0:Acn)(r:Bool)(h:m73 a0=some r):evFL T 73 [.agg [nI a0.kind,nI a0.n]] []=some (.bool r,[]):=by
 unfold m73 at h;rw [evFL_at fn73 (Nat.le_of_ble_eq_true rfl) rfl (.inr rfl) ⟨rfl,rfl⟩];obtain ⟨v15,w14,h⟩:=bcall (e73_1 a0 (eqI a0.kind 1)) h;simp only [X73_1] at w14;try simp -implicitDefEqProofs only [go_sem] at w14
 rcases brx h with ⟨b16,h⟩|⟨b16,h⟩
 · obtain ⟨v26,w25,h⟩:=bcall (e73_4 a0) h;simp only [X73_4] at w25;(try simp -implicitDefEqProofs only [go_sem] at w25);cases h;simp -implicitDefEqProofs only [go_sem,i73,c73,w14,b16,w25]
 · obtain ⟨r19,w18,h⟩:=bcall (e72 a0.n 0 1000000) h;(try simp -implicitDefEqProofs only [go_sem] at w18);cases h;simp -implicitDefEqProofs only [go_sem,i73,c73,w14,b16,w18]
@[go_sem] theorem call149:CL 149 [[0]]:=evCall0 fn149 rfl rfl rfl
noncomputable def X149_3 (a0:Int)(p5:Bool)(o:Bool):Ex×Fr×St :=
 (.normal,frOf 14 (upd (upd anyF 3 (nI a0)) 4 (.bool o)),[])
theorem e149_3 (a0:Int)(p5:Bool)(o:Bool)(h:m149_3 a0 p5=some o):evCL T 0 k149_3 (frOf 14 (upd (upd anyF 3 (nI a0)) 4 (.bool p5))) []=some (X149_3 a0 p5 o):=by
 unfold m149_3 at h
 rcases brx h with ⟨b6,h⟩|⟨b6,h⟩
 · cases h;simp -implicitDefEqProofs only [go_sem,X149_3,k149_3,b6]
 · cases h;simp -implicitDefEqProofs only [go_sem,X149_3,k149_3,b6]
noncomputable def X149_2 (a0:Int)(p3:Bool)(o:Bool):Ex×Fr×St :=
 (.normal,frOf 14 (upd (upd anyF 3 (nI a0)) 4 (.bool o)),[])
theorem e149_2 (a0:Int)(p3:Bool)(o:Bool)(h:m149_2 a0 p3=some o):evCL T 0 k149_2 (frOf 14 (upd (upd anyF 3 (nI a0)) 4 (.bool p3))) []=some (X149_2 a0 p3 o):=by
 unfold m149_2 at h
 rcases brx h with ⟨b4,h⟩|⟨b4,h⟩
 · obtain ⟨v9,w8,h⟩:=bcall (e149_3 a0 (eqI a0 3)) h;simp only [X149_3] at w8;(try simp -implicitDefEqProofs only [go_sem] at w8);cases h;simp -implicitDefEqProofs only [go_sem,X149_2,k149_2,b4,w8]
 · cases h;simp -implicitDefEqProofs only [go_sem,X149_2,k149_2,b4]
noncomputable def X149_1 (a0:Int)(p1:Bool)(o:Bool):Ex×Fr×St :=
 (.normal,frOf 14 (upd (upd anyF 3 (nI a0)) 4 (.bool o)),[])
theorem e149_1 (a0:Int)(p1:Bool)(o:Bool)(h:m149_1 a0 p1=some o):evCL T 0 k149_1 (frOf 14 (upd (upd anyF 3 (nI a0)) 4 (.bool p1))) []=some (X149_1 a0 p1 o):=by
 unfold m149_1 at h
 rcases brx h with ⟨b2,h⟩|⟨b2,h⟩
 · obtain ⟨v12,w11,h⟩:=bcall (e149_2 a0 (eqI a0 2)) h;simp only [X149_2] at w11;(try simp -implicitDefEqProofs only [go_sem] at w11);cases h;simp -implicitDefEqProofs only [go_sem,X149_1,k149_1,b2,w11]
 · cases h;simp -implicitDefEqProofs only [go_sem,X149_1,k149_1,b2]
noncomputable def X149_4 (a0:Int)(p17:Bool)(o:Bool):Ex×Fr×St :=
 (.normal,frOf 14 (upd (upd anyF 3 (nI a0)) 9 (.bool o)),[])
theorem e149_4 (a0:Int)(p17:Bool)(o:Bool)(h:m149_4 a0 p17=some o):evCL T 0 k149_4 (frOf 14 (upd (upd anyF 3 (nI a0)) 9 (.bool p17))) []=some (X149_4 a0 p17 o):=by
 unfold m149_4 at h
 rcases brx h with ⟨b18,h⟩|⟨b18,h⟩
 · cases h;simp -implicitDefEqProofs only [go_sem,X149_4,k149_4,b18]
 · cases h;simp -implicitDefEqProofs only [go_sem,X149_4,k149_4,b18]
theorem e149 (a0:Int)(r:Int)(h:m149 a0=some r):evFL T 149 [nI a0] []=some (nI r,[]):=by
 unfold m149 at h;rw [evFL_at fn149 (Nat.le_of_ble_eq_true rfl) rfl (.inr rfl) ⟨rfl,rfl⟩];obtain ⟨v15,w14,h⟩:=bcall (e149_1 a0 (eqI a0 1)) h;simp only [X149_1] at w14;try simp -implicitDefEqProofs only [go_sem] at w14
 rcases brx h with ⟨b16,h⟩|⟨b16,h⟩
 · obtain ⟨v21,w20,h⟩:=bcall (e149_4 a0 (eqI a0 5)) h;simp only [X149_4] at w20;try simp -implicitDefEqProofs only [go_sem] at w20
   rcases brx h with ⟨b22,h⟩|⟨b22,h⟩
   · try simp -implicitDefEqProofs only [go_sem,i149,c149,w14,b16,w20,b22]
     rcases brx h with ⟨b23,h⟩|⟨b23,h⟩
     · cases h;simp -implicitDefEqProofs only [go_sem,i149,c149,w14,b16,w20,b22,b23]
     · cases h;simp -implicitDefEqProofs only [go_sem,i149,c149,w14,b16,w20,b22,b23]
   · cases h;simp -implicitDefEqProofs only [go_sem,i149,c149,w14,b16,w20,b22]
 · cases h;simp -implicitDefEqProofs only [go_sem,i149,c149,w14,b16]
@[go_sem] theorem call139:CL 139 [[2],[0]]:=evCall0 fn139 rfl rfl rfl
noncomputable def X139_1 (a0:List ReCell)(a1:Int)(r9:Int)(x2:ReCell)(o:Bool):Ex×Fr×St :=
 (.normal,frOf 76 (upd (upd (upd (upd (upd (upd anyF 0 (.ts .imm 2 (a0.map nReC))) 1 (nI a1)) 4 (.ptr 0 0 0)) 6 (.ptr 2 0 0)) 7 (nI r9)) 45 (.bool o)),[some ⟨.box,3,[[nI 0,nI 0,.sl 1 0 0]]⟩,some ⟨.arr,3,[]⟩,some ⟨.box,2,[[nI x2.kind,nI x2.n]]⟩])
theorem e139_1 (rc:(List ReCell)→Int→Option (l6T×Int))(hrc:∀(a0:List ReCell) (a1:Int) (r:(l6T×Int)),rc a0 a1=some r→evFL T 139 [.ts .imm 2 (a0.map nReC),nI a1] []=some (.tup [.agg [nI r.1.kind_,nI r.1.n_,.sl 0 0 r.1.kids_.length],nI r.2],[some ⟨.arr,3,r.1.kids_.map (nl6T .own)⟩]))(a0:List ReCell)(a1:Int)(r9:Int)(x2:ReCell)(o:Bool)(h:m139_1 rc r9 x2=some o):evCL T 0 k139_1 (frOf 76 (upd (upd (upd (upd (upd anyF 0 (.ts .imm 2 (a0.map nReC))) 1 (nI a1)) 4 (.ptr 0 0 0)) 6 (.ptr 2 0 0)) 7 (nI r9))) [some ⟨.box,3,[[nI 0,nI 0,.sl 1 0 0]]⟩,some ⟨.arr,3,[]⟩,some ⟨.box,2,[[nI x2.kind,nI x2.n]]⟩]=some (X139_1 a0 a1 r9 x2 o):=by
 unfold m139_1 at h
 rcases brx h with ⟨b10,h⟩|⟨b10,h⟩
 · try simp -implicitDefEqProofs only [go_sem,X139_1,k139_1,b10]
   rcases brx h with ⟨b11,h⟩|⟨b11,h⟩
   · cases h;simp -implicitDefEqProofs only [go_sem,X139_1,k139_1,b10,b11]
   · obtain ⟨r14,w13,h⟩:=bcall (e72 x2.n 1 65535) h;try simp -implicitDefEqProofs only [go_sem] at w13
     rcases brx h with ⟨b15,h⟩|⟨b15,h⟩
     · cases h;simp -implicitDefEqProofs only [go_sem,X139_1,k139_1,b10,b11,w13,b15]
     · cases h;simp -implicitDefEqProofs only [go_sem,X139_1,k139_1,b10,b11,w13,b15]
 · cases h;simp -implicitDefEqProofs only [go_sem,X139_1,k139_1,b10]
noncomputable def X139_2 (a0:List ReCell)(x2:ReCell)(o:((Int×List l6T) ⊕ Unit)):Ex×Fr×St :=
 match o with
 | .inl o=>(.exit 0,frOf 76 (upd (upd (upd anyF 1 (nI o.1)) 4 (.ptr 0 0 0)) 8 (.ptr 2 0 0)),[some ⟨.box,3,[[nI 0,nI 0,.sl 1 0 0]]⟩,some ⟨.arr,3,[]⟩,some ⟨.box,3,[[nI x2.kind,nI x2.n,.sl 3 0 o.2.length]]⟩,some ⟨.arr,3,o.2.map (nl6T .own)⟩])
 | .inr o=>(.ret,frOf 76 (upd (upd anyF 4 (.ptr 0 0 0)) 5 (nI 0)),[some ⟨.box,3,[[nI 0,nI 0,.sl 1 0 0]]⟩,some ⟨.arr,3,[]⟩])
noncomputable def E139_2 (a0:List ReCell)(x2:ReCell)(s:(Int×Int×List l6T)):Fr×St:=(frOf 76 (upd (upd (upd (upd (upd anyF 0 (.ts .imm 2 (a0.map nReC))) 1 (nI s.1)) 4 (.ptr 0 0 0)) 7 (nI s.2.1)) 8 (.ptr 2 0 0)),[some ⟨.box,3,[[nI 0,nI 0,.sl 1 0 0]]⟩,some ⟨.arr,3,[]⟩,some ⟨.box,3,[[nI x2.kind,nI x2.n,.sl 3 0 s.2.2.length]]⟩,some ⟨.arr,3,s.2.2.map (nl6T .own)⟩])
theorem b139_2 (rc:(List ReCell)→Int→Option (l6T×Int))(hrc:∀(a0:List ReCell) (a1:Int) (r:(l6T×Int)),rc a0 a1=some r→evFL T 139 [.ts .imm 2 (a0.map nReC),nI a1] []=some (.tup [.agg [nI r.1.kind_,nI r.1.n_,.sl 0 0 r.1.kids_.length],nI r.2],[some ⟨.arr,3,r.1.kids_.map (nl6T .own)⟩]))(a0:List ReCell)(x2:ReCell)(s:(Int×Int×List l6T))(o:Ctl (Int×Int×List l6T) ((Int×List l6T) ⊕ Unit))(h:m139_2b rc a0 s=some o):evCL T 0 k139_2b (E139_2 a0 x2 s).1 (E139_2 a0 x2 s).2=some (ctlX (E139_2 a0 x2) (X139_2 a0 x2) o):=by
 unfold m139_2b at h;obtain ⟨s27,s28,s29⟩:=s;replace h:=sel3_some h
 rcases brx h with ⟨b30,h⟩|⟨b30,h⟩
 · cases h;simp -implicitDefEqProofs only [go_sem,E139_2,X139_2,k139_2b,b30]
 · obtain ⟨⟨r33,r34⟩,w32,h⟩:=bcall (hrc a0 s27) h;replace h:=sel2_some h;try simp -implicitDefEqProofs only [go_sem] at w32
   rcases brx h with ⟨b35,h⟩|⟨b35,h⟩
   · obtain ⟨g36,h⟩:=ck_some h;(try simp -implicitDefEqProofs only [go_sem] at g36);cases h;simp -implicitDefEqProofs only [go_sem,E139_2,X139_2,k139_2b,b30,w32,b35,g36]
   · cases h;simp -implicitDefEqProofs only [go_sem,E139_2,X139_2,k139_2b,b30,w32,b35]
theorem e139_2 (rc:(List ReCell)→Int→Option (l6T×Int))(hrc:∀(a0:List ReCell) (a1:Int) (r:(l6T×Int)),rc a0 a1=some r→evFL T 139 [.ts .imm 2 (a0.map nReC),nI a1] []=some (.tup [.agg [nI r.1.kind_,nI r.1.n_,.sl 0 0 r.1.kids_.length],nI r.2],[some ⟨.arr,3,r.1.kids_.map (nl6T .own)⟩]))(a0:List ReCell)(x2:ReCell)(s:(Int×Int×List l6T))(o:((Int×List l6T) ⊕ Unit))(h:loopP (m139_2b rc a0) s=some o):evCL T 0 (.loop k139_2b) (E139_2 a0 x2 s).1 (E139_2 a0 x2 s).2=some (X139_2 a0 x2 o) :=
 loop_walk (E:=E139_2 a0 x2) (X:=X139_2 a0 x2) (by intro b;rcases b with b | b<;>(simp only [X139_2];nofun)) (b139_2 rc hrc a0 x2) s o h
theorem e139r (rc:(List ReCell)→Int→Option (l6T×Int))(hrc:∀(a0:List ReCell) (a1:Int) (r:(l6T×Int)),rc a0 a1=some r→evFL T 139 [.ts .imm 2 (a0.map nReC),nI a1] []=some (.tup [.agg [nI r.1.kind_,nI r.1.n_,.sl 0 0 r.1.kids_.length],nI r.2],[some ⟨.arr,3,r.1.kids_.map (nl6T .own)⟩]))(a0:List ReCell)(a1:Int)(r:(l6T×Int))(h:m139r rc a0 a1=some r):evFL T 139 [.ts .imm 2 (a0.map nReC),nI a1] []=some (.tup [.agg [nI r.1.kind_,nI r.1.n_,.sl 0 0 r.1.kids_.length],nI r.2],[some ⟨.arr,3,r.1.kids_.map (nl6T .own)⟩]):=by
 unfold m139r at h;rw [evFL_at fn139 (Nat.le_of_ble_eq_true rfl) rfl (.inr rfl) ⟨rfl,rfl⟩]
 rcases brx h with ⟨b1,h⟩|⟨b1,h⟩
 · obtain ⟨x2,g4,g5,g6,h⟩:=bidx nReC h;obtain ⟨r9,w8,h⟩:=bcall (e149 x2.kind) h;obtain ⟨v18,w17,h⟩:=bcall (e139_1 rc hrc a0 a1 r9 x2) h;(try simp -implicitDefEqProofs only [go_sem] at g5 g6 w8);simp only [X139_1] at w17;try simp -implicitDefEqProofs only [go_sem] at w17
   rcases brx h with ⟨b19,h⟩|⟨b19,h⟩
   · (try simp -implicitDefEqProofs only [go_sem,i139,c139,b1,g4,g5,g6,w8,w17,b19]);obtain ⟨o,q37,h⟩:=bnd_some h
     rcases o with ⟨v39,v40⟩|⟨⟩
     · replace h:=selS_l h;replace h:=sel2_some h;have w38:=e139_2 rc hrc a0 x2 (wadd .i64 a1 1,r9,[]) (.inl (v39,v40)) q37;simp only [E139_2,X139_2] at w38;(try simp -implicitDefEqProofs only [go_sem] at w38);cases h;simp -implicitDefEqProofs only [go_sem,i139,c139,b1,g4,g5,g6,w8,w17,b19,w38]
     · replace h:=selS_r h;have w38:=e139_2 rc hrc a0 x2 (wadd .i64 a1 1,r9,[]) (.inr ()) q37;simp only [E139_2,X139_2] at w38;(try simp -implicitDefEqProofs only [go_sem] at w38);cases h;simp -implicitDefEqProofs only [go_sem,i139,c139,b1,g4,g5,g6,w8,w17,b19,w38]
   · cases h;simp -implicitDefEqProofs only [go_sem,i139,c139,b1,g4,g5,g6,w8,w17,b19]
 · cases h;simp -implicitDefEqProofs only [go_sem,i139,c139,b1]
theorem e139k:∀(k:Nat) (a0:List ReCell) (a1:Int) (r:(l6T×Int)) (h:m139k k a0 a1=some r),evFL T 139 [.ts .imm 2 (a0.map nReC),nI a1] []=some (.tup [.agg [nI r.1.kind_,nI r.1.n_,.sl 0 0 r.1.kids_.length],nI r.2],[some ⟨.arr,3,r.1.kids_.map (nl6T .own)⟩]):=by
 intro k
 induction k with
 | zero=>intro a0 a1 r h;cases h
 | succ k ih=>intro a0 a1 r h;exact e139r (m139k k) (fun a0 a1 r h=>ih a0 a1 r h) a0 a1 r h
theorem e139 (a0:List ReCell)(a1:Int)(r:(l6T×Int))(h:m139 a0 a1=some r):evFL T 139 [.ts .imm 2 (a0.map nReC),nI a1] []=some (.tup [.agg [nI r.1.kind_,nI r.1.n_,.sl 0 0 r.1.kids_.length],nI r.2],[some ⟨.arr,3,r.1.kids_.map (nl6T .own)⟩]):=by
 obtain ⟨N,hN⟩:=limO_iff.1 h;exact e139k N a0 a1 r (hN N (Nat.le_refl N))
@[go_sem] theorem call109:CL 109 [[2]]:=evCall0 fn109 rfl rfl rfl
noncomputable def X109_1 (a0:List ReCell)(r5:Int)(r4:l6T)(o:Bool):Ex×Fr×St :=
 (.normal,frOf 24 (upd (upd anyF 2 (.ptr 0 0 0)) 3 (.bool o)),[some ⟨.box,3,[[nI r4.kind_,nI r4.n_,.sl 1 0 r4.kids_.length]]⟩,some ⟨.arr,3,r4.kids_.map (nl6T .own)⟩])
theorem e109_1 (a0:List ReCell)(r5:Int)(r4:l6T)(o:Bool)(h:m109_1 a0 r5=some o):evCL T 0 k109_1 (frOf 24 (upd (upd (upd (upd anyF 0 (.ts .imm 2 (a0.map nReC))) 2 (.ptr 0 0 0)) 4 (.ptr 2 0 0)) 5 (nI r5))) [some ⟨.box,3,[[nI 0,nI 0,.sl 1 0 0]]⟩,some ⟨.arr,3,[]⟩,some ⟨.box,3,[[nI r4.kind_,nI r4.n_,.sl 3 0 r4.kids_.length]]⟩,some ⟨.arr,3,r4.kids_.map (nl6T .own)⟩]=some (X109_1 a0 r5 r4 o):=by
 unfold m109_1 at h
 rcases brx h with ⟨b6,h⟩|⟨b6,h⟩
 · cases h;simp -implicitDefEqProofs only [go_sem,X109_1,k109_1,b6]
 · cases h;simp -implicitDefEqProofs only [go_sem,X109_1,k109_1,b6]
theorem e109 (a0:List ReCell)(r:(l6T×Bool))(h:m109 a0=some r):evFL T 109 [.ts .imm 2 (a0.map nReC)] []=some (.tup [.agg [nI r.1.kind_,nI r.1.n_,.sl 0 0 r.1.kids_.length],.bool r.2],[some ⟨.arr,3,r.1.kids_.map (nl6T .own)⟩]):=by
 unfold m109 at h;rw [evFL_at fn109 (Nat.le_of_ble_eq_true rfl) rfl (.inr rfl) ⟨rfl,rfl⟩]
 rcases brx h with ⟨b1,h⟩|⟨b1,h⟩
 · obtain ⟨⟨r4,r5⟩,w3,h⟩:=bcall (e139 a0 0) h;replace h:=sel2_some h;obtain ⟨v9,w8,h⟩:=bcall (e109_1 a0 r5 r4) h;(try simp -implicitDefEqProofs only [go_sem] at w3);simp only [X109_1] at w8;(try simp -implicitDefEqProofs only [go_sem] at w8);cases h;simp -implicitDefEqProofs only [go_sem,i109,c109,b1,w3,w8]
 · cases h;simp -implicitDefEqProofs only [go_sem,i109,c109,b1]
@[go_sem] theorem call74:CL 74 [[2]]:=evCall0 fn74 rfl rfl rfl
theorem e74 (a0:List ReCell)(r:Bool)(h:m74 a0=some r):evFL T 74 [.ts .imm 2 (a0.map nReC)] []=some (.bool r,[]):=by
 unfold m74 at h;rw [evFL_at fn74 (Nat.le_of_ble_eq_true rfl) rfl (.inr rfl) ⟨rfl,rfl⟩];obtain ⟨⟨r3,r4⟩,w2,h⟩:=bcall (e109 a0) h;replace h:=sel2_some h;(try simp -implicitDefEqProofs only [go_sem] at w2);cases h;simp -implicitDefEqProofs only [go_sem,i74,c74,w2]
@[go_sem] theorem call47:CL 47 [[4,2,0,2,0]]:=evCall0 fn47 rfl rfl rfl
noncomputable def X47_3 (a0:Term)(p1:Int)(s23:Int)(x25:Range)(o:Bool):Ex×Fr×St :=
 (.normal,frOf 78 (upd (upd (upd (upd (upd anyF 1 (.ptr 0 0 0)) 8 (.ts .imm 4 (a0.ranges.map nRan))) 9 (nI p1)) 10 (nI s23)) 34 (.bool o)),[some ⟨.box,5,[(nTer .imm a0)]⟩])
theorem e47_3 (a0:Term)(p1:Int)(s23:Int)(x25:Range)(o:Bool)(h:m47_3 x25=some o):evCL T 0 k47_3 (frOf 78 (upd (upd (upd (upd (upd anyF 1 (.ptr 0 0 0)) 4 (.ptr 1 0 0)) 8 (.ts .imm 4 (a0.ranges.map nRan))) 9 (nI p1)) 10 (nI s23))) [some ⟨.box,5,[(nTer .imm a0)]⟩,some ⟨.box,4,[(nRan x25)]⟩]=some (X47_3 a0 p1 s23 x25 o):=by
 unfold m47_3 at h;obtain ⟨r32,w31,h⟩:=bcall (e48 x25.prefix_) h;try simp -implicitDefEqProofs only [go_sem] at w31
 rcases brx h with ⟨b33,h⟩|⟨b33,h⟩
 · cases h;simp -implicitDefEqProofs only [go_sem,X47_3,k47_3,w31,b33]
 · obtain ⟨r36,w35,h⟩:=bcall (e72 x25.lo x25.prefix_.len 32) h;try simp -implicitDefEqProofs only [go_sem] at w35
   rcases brx h with ⟨b37,h⟩|⟨b37,h⟩
   · cases h;simp -implicitDefEqProofs only [go_sem,X47_3,k47_3,w31,b33,w35,b37]
   · obtain ⟨r40,w39,h⟩:=bcall (e72 x25.hi x25.lo 32) h;(try simp -implicitDefEqProofs only [go_sem] at w39);cases h;simp -implicitDefEqProofs only [go_sem,X47_3,k47_3,w31,b33,w35,b37,w39]
noncomputable def X47_1 (a0:Term)(p1:Int)(o:(Unit ⊕ Unit)):Ex×Fr×St :=
 match o with
 | .inl o=>(.exit 0,frOf 78 (upd anyF 1 (.ptr 0 0 0)),[some ⟨.box,5,[(nTer .imm a0)]⟩])
 | .inr o=>(.ret,frOf 78 (upd anyF 2 (.bool false)),[])
noncomputable def E47_1 (a0:Term)(p1:Int)(s:Int):Fr×St:=(frOf 78 (upd (upd (upd (upd anyF 1 (.ptr 0 0 0)) 8 (.ts .imm 4 (a0.ranges.map nRan))) 9 (nI p1)) 10 (nI s)),[some ⟨.box,5,[(nTer .imm a0)]⟩])
theorem b47_1 (a0:Term)(p1:Int)(s:Int)(o:Ctl Int (Unit ⊕ Unit))(h:m47_1b a0 p1 s=some o):evCL T 0 k47_1b (E47_1 a0 p1 s).1 (E47_1 a0 p1 s).2=some (ctlX (E47_1 a0 p1) (X47_1 a0 p1) o):=by
 unfold m47_1b at h
 revert h
 generalize s=s23;intro h
 rcases brx h with ⟨b24,h⟩|⟨b24,h⟩
 · cases h;simp -implicitDefEqProofs only [go_sem,E47_1,X47_1,k47_1b,b24]
 · obtain ⟨x25,g27,g28,g29,h⟩:=bidx nRan h;obtain ⟨v43,w42,h⟩:=bcall (e47_3 a0 p1 s23 x25) h;(try simp -implicitDefEqProofs only [go_sem] at g28 g29);simp only [X47_3] at w42;try simp -implicitDefEqProofs only [go_sem] at w42
   rcases brx h with ⟨b44,h⟩|⟨b44,h⟩
   · cases h;simp -implicitDefEqProofs only [go_sem,E47_1,X47_1,k47_1b,b24,g27,g28,g29,w42,b44]
   · cases h;simp -implicitDefEqProofs only [go_sem,E47_1,X47_1,k47_1b,b24,g27,g28,g29,w42,b44]
theorem e47_1 (a0:Term)(p1:Int)(s:Int)(o:(Unit ⊕ Unit))(h:loopP (m47_1b a0 p1) s=some o):evCL T 0 (.loop k47_1b) (E47_1 a0 p1 s).1 (E47_1 a0 p1 s).2=some (X47_1 a0 p1 o) :=
 loop_walk (E:=E47_1 a0 p1) (X:=X47_1 a0 p1) (by intro b;rcases b with b | b<;>(simp only [X47_1];nofun)) (b47_1 a0 p1) s o h
noncomputable def X47_4 (a0:Term)(p47:Int)(o:(Unit ⊕ Unit)):Ex×Fr×St :=
 match o with
 | .inl o=>(.exit 2,frOf 78 (upd anyF 1 (.ptr 0 0 0)),[some ⟨.box,5,[(nTer .imm a0)]⟩])
 | .inr o=>(.ret,frOf 78 (upd anyF 2 (.bool false)),[])
noncomputable def E47_4 (a0:Term)(p47:Int)(s:Int):Fr×St:=(frOf 78 (upd (upd (upd (upd anyF 1 (.ptr 0 0 0)) 37 (.ts .imm 2 (a0.acts.map nAcn))) 38 (nI p47)) 39 (nI s)),[some ⟨.box,5,[(nTer .imm a0)]⟩])
theorem b47_4 (a0:Term)(p47:Int)(s:Int)(o:Ctl Int (Unit ⊕ Unit))(h:m47_4b a0 p47 s=some o):evCL T 0 k47_4b (E47_4 a0 p47 s).1 (E47_4 a0 p47 s).2=some (ctlX (E47_4 a0 p47) (X47_4 a0 p47) o):=by
 unfold m47_4b at h
 revert h
 generalize s=s58;intro h
 rcases brx h with ⟨b59,h⟩|⟨b59,h⟩
 · cases h;simp -implicitDefEqProofs only [go_sem,E47_4,X47_4,k47_4b,b59]
 · obtain ⟨x60,g62,g63,g64,h⟩:=bidx nAcn h;obtain ⟨r67,w66,h⟩:=bcall (e73 x60) h;try simp -implicitDefEqProofs only [go_sem] at g63 g64 w66
   rcases brx h with ⟨b68,h⟩|⟨b68,h⟩
   · cases h;simp -implicitDefEqProofs only [go_sem,E47_4,X47_4,k47_4b,b59,g62,g63,g64,w66,b68]
   · cases h;simp -implicitDefEqProofs only [go_sem,E47_4,X47_4,k47_4b,b59,g62,g63,g64,w66,b68]
theorem e47_4 (a0:Term)(p47:Int)(s:Int)(o:(Unit ⊕ Unit))(h:loopP (m47_4b a0 p47) s=some o):evCL T 0 (.loop k47_4b) (E47_4 a0 p47 s).1 (E47_4 a0 p47 s).2=some (X47_4 a0 p47 o) :=
 loop_walk (E:=E47_4 a0 p47) (X:=X47_4 a0 p47) (by intro b;rcases b with b | b<;>(simp only [X47_4];nofun)) (b47_4 a0 p47) s o h
noncomputable def X47_5 (a0:Term)(o:Bool):Ex×Fr×St :=
 (.normal,frOf 78 (upd anyF 2 (.bool o)),[])
theorem e47_5 (a0:Term)(o:Bool)(h:m47_5 a0=some o):evCL T 0 k47_5 (frOf 78 (upd anyF 1 (.ptr 0 0 0))) [some ⟨.box,5,[(nTer .imm a0)]⟩]=some (X47_5 a0 o):=by
 unfold m47_5 at h
 rcases brx h with ⟨b71,h⟩|⟨b71,h⟩
 · cases h;simp -implicitDefEqProofs only [go_sem,X47_5,k47_5,b71]
 · try simp -implicitDefEqProofs only [go_sem,X47_5,k47_5,b71]
   rcases brx h with ⟨b72,h⟩|⟨b72,h⟩
   · cases h;simp -implicitDefEqProofs only [go_sem,X47_5,k47_5,b71,b72]
   · try simp -implicitDefEqProofs only [go_sem,X47_5,k47_5,b71,b72]
     rcases brx h with ⟨b73,h⟩|⟨b73,h⟩
     · obtain ⟨r83,w82,h⟩:=bcall (e74 a0.path) h;try simp -implicitDefEqProofs only [go_sem] at w82
       rcases brx h with ⟨b84,h⟩|⟨b84,h⟩
       · cases h;simp -implicitDefEqProofs only [go_sem,X47_5,k47_5,b71,b72,b73,w82,b84]
       · obtain ⟨r87,w86,h⟩:=bcall (e72 a0.comm (-1) 1000000) h;try simp -implicitDefEqProofs only [go_sem] at w86
         rcases brx h with ⟨b88,h⟩|⟨b88,h⟩
         · cases h;simp -implicitDefEqProofs only [go_sem,X47_5,k47_5,b71,b72,b73,w82,b84,w86,b88]
         · obtain ⟨r91,w90,h⟩:=bcall (e72 a0.verdict 0 2) h;(try simp -implicitDefEqProofs only [go_sem] at w90);cases h;simp -implicitDefEqProofs only [go_sem,X47_5,k47_5,b71,b72,b73,w82,b84,w86,b88,w90]
     · obtain ⟨r76,w75,h⟩:=bcall (e72 a0.comm (-1) 1000000) h;try simp -implicitDefEqProofs only [go_sem] at w75
       rcases brx h with ⟨b77,h⟩|⟨b77,h⟩
       · cases h;simp -implicitDefEqProofs only [go_sem,X47_5,k47_5,b71,b72,b73,w75,b77]
       · obtain ⟨r80,w79,h⟩:=bcall (e72 a0.verdict 0 2) h;(try simp -implicitDefEqProofs only [go_sem] at w79);cases h;simp -implicitDefEqProofs only [go_sem,X47_5,k47_5,b71,b72,b73,w75,b77,w79]
theorem e47 (a0:Term)(r:Bool)(h:m47 a0=some r):evFL T 47 [.agg (nTer .imm a0)] []=some (.bool r,[]):=by
 unfold m47 at h;rw [evFL_at fn47 (Nat.le_of_ble_eq_true rfl) rfl (.inr rfl) ⟨rfl,rfl⟩];(try simp -implicitDefEqProofs only [go_sem,i47,c47]);obtain ⟨o,q45,h⟩:=bnd_some h
 rcases o with ⟨⟩|⟨⟩
 · replace h:=selS_l h;have w46:=e47_1 a0 (↑a0.ranges.length:Int) 0 (.inl ()) q45;simp only [E47_1,X47_1] at w46;(try simp -implicitDefEqProofs only [go_sem] at w46);(try simp -implicitDefEqProofs only [go_sem,i47,c47,w46]);obtain ⟨o,q69,h⟩:=bnd_some h
   rcases o with ⟨⟩|⟨⟩
   · replace h:=selS_l h;have w70:=e47_4 a0 (↑a0.acts.length:Int) 0 (.inl ()) q69;simp only [E47_4,X47_4] at w70;obtain ⟨v94,w93,h⟩:=bcall (e47_5 a0) h;(try simp -implicitDefEqProofs only [go_sem] at w70);simp only [X47_5] at w93;(try simp -implicitDefEqProofs only [go_sem] at w93);cases h;simp -implicitDefEqProofs only [go_sem,i47,c47,w46,w70,w93]
   · replace h:=selS_r h;have w70:=e47_4 a0 (↑a0.acts.length:Int) 0 (.inr ()) q69;simp only [E47_4,X47_4] at w70;(try simp -implicitDefEqProofs only [go_sem] at w70);cases h;simp -implicitDefEqProofs only [go_sem,i47,c47,w46,w70]
 · replace h:=selS_r h;have w46:=e47_1 a0 (↑a0.ranges.length:Int) 0 (.inr ()) q45;simp only [E47_1,X47_1] at w46;(try simp -implicitDefEqProofs only [go_sem] at w46);cases h;simp -implicitDefEqProofs only [go_sem,i47,c47,w46]
@[go_sem] theorem call25:CL 25 [[5,0]]:=evCall0 fn25 rfl rfl rfl
noncomputable def X25_1 (a0:Policy)(p1:Int)(o:(Unit ⊕ Unit)):Ex×Fr×St :=
 match o with
 | .inl o=>(.exit 0,frOf 20 (upd anyF 1 (.ptr 0 0 0)),[some ⟨.box,2,[(nPol .imm a0)]⟩])
 | .inr o=>(.ret,frOf 20 (upd anyF 2 (.bool false)),[])
noncomputable def E25_1 (a0:Policy)(p1:Int)(s:Int):Fr×St:=(frOf 20 (upd (upd (upd (upd anyF 1 (.ptr 0 0 0)) 6 (.ts .imm 5 (a0.terms.map (nTer .imm)))) 7 (nI p1)) 8 (nI s)),[some ⟨.box,2,[(nPol .imm a0)]⟩])
theorem b25_1 (a0:Policy)(p1:Int)(s:Int)(o:Ctl Int (Unit ⊕ Unit))(h:m25_1b a0 p1 s=some o):evCL T 0 k25_1b (E25_1 a0 p1 s).1 (E25_1 a0 p1 s).2=some (ctlX (E25_1 a0 p1) (X25_1 a0 p1) o):=by
 unfold m25_1b at h
 revert h
 generalize s=s12;intro h
 rcases brx h with ⟨b13,h⟩|⟨b13,h⟩
 · cases h;simp -implicitDefEqProofs only [go_sem,E25_1,X25_1,k25_1b,b13]
 · obtain ⟨x14,g16,g17,g18,h⟩:=bidx (nTer .imm) h;obtain ⟨r21,w20,h⟩:=bcall (e47 x14) h;try simp -implicitDefEqProofs only [go_sem] at g17 g18 w20
   rcases brx h with ⟨b22,h⟩|⟨b22,h⟩
   · cases h;simp -implicitDefEqProofs only [go_sem,E25_1,X25_1,k25_1b,b13,g16,g17,g18,w20,b22]
   · cases h;simp -implicitDefEqProofs only [go_sem,E25_1,X25_1,k25_1b,b13,g16,g17,g18,w20,b22]
theorem e25_1 (a0:Policy)(p1:Int)(s:Int)(o:(Unit ⊕ Unit))(h:loopP (m25_1b a0 p1) s=some o):evCL T 0 (.loop k25_1b) (E25_1 a0 p1 s).1 (E25_1 a0 p1 s).2=some (X25_1 a0 p1 o) :=
 loop_walk (E:=E25_1 a0 p1) (X:=X25_1 a0 p1) (by intro b;rcases b with b | b<;>(simp only [X25_1];nofun)) (b25_1 a0 p1) s o h
theorem e25 (a0:Policy)(r:Bool)(h:m25 a0=some r):evFL T 25 [.agg (nPol .imm a0)] []=some (.bool r,[]):=by
 unfold m25 at h;rw [evFL_at fn25 (Nat.le_of_ble_eq_true rfl) rfl (.inr rfl) ⟨rfl,rfl⟩];(try simp -implicitDefEqProofs only [go_sem,i25,c25]);obtain ⟨o,q23,h⟩:=bnd_some h
 rcases o with ⟨⟩|⟨⟩
 · replace h:=selS_l h;have w24:=e25_1 a0 (↑a0.terms.length:Int) 0 (.inl ()) q23;simp only [E25_1,X25_1] at w24;(try simp -implicitDefEqProofs only [go_sem] at w24);cases h;simp -implicitDefEqProofs only [go_sem,i25,c25,w24]
 · replace h:=selS_r h;have w24:=e25_1 a0 (↑a0.terms.length:Int) 0 (.inr ()) q23;simp only [E25_1,X25_1] at w24;(try simp -implicitDefEqProofs only [go_sem] at w24);cases h;simp -implicitDefEqProofs only [go_sem,i25,c25,w24]
@[go_sem] theorem call49:CL 49 [[0,1,0,0,0,1]]:=evCall0 fn49 rfl rfl rfl
noncomputable def X49_1 (a0:Attrs)(p1:Int)(o:(Unit ⊕ Unit)):Ex×Fr×St :=
 match o with
 | .inl o=>(.exit 0,frOf 74 (upd anyF 1 (.ptr 0 0 0)),[some ⟨.box,6,[(nAtt .imm a0)]⟩])
 | .inr o=>(.ret,frOf 74 (upd anyF 2 (.bool false)),[])
noncomputable def E49_1 (a0:Attrs)(p1:Int)(s:Int):Fr×St:=(frOf 74 (upd (upd (upd (upd anyF 1 (.ptr 0 0 0)) 8 (.ts .imm 1 (a0.path.map nInt))) 9 (nI p1)) 10 (nI s)),[some ⟨.box,6,[(nAtt .imm a0)]⟩])
theorem b49_1 (a0:Attrs)(p1:Int)(s:Int)(o:Ctl Int (Unit ⊕ Unit))(h:m49_1b a0 p1 s=some o):evCL T 0 k49_1b (E49_1 a0 p1 s).1 (E49_1 a0 p1 s).2=some (ctlX (E49_1 a0 p1) (X49_1 a0 p1) o):=by
 unfold m49_1b at h
 revert h
 generalize s=s12;intro h
 rcases brx h with ⟨b13,h⟩|⟨b13,h⟩
 · cases h;simp -implicitDefEqProofs only [go_sem,E49_1,X49_1,k49_1b,b13]
 · obtain ⟨x14,g16,g17,g18,h⟩:=bidx nInt h;obtain ⟨r21,w20,h⟩:=bcall (e72 x14 1 65535) h;try simp -implicitDefEqProofs only [go_sem] at g17 g18 w20
   rcases brx h with ⟨b22,h⟩|⟨b22,h⟩
   · cases h;simp -implicitDefEqProofs only [go_sem,E49_1,X49_1,k49_1b,b13,g16,g17,g18,w20,b22]
   · cases h;simp -implicitDefEqProofs only [go_sem,E49_1,X49_1,k49_1b,b13,g16,g17,g18,w20,b22]
theorem e49_1 (a0:Attrs)(p1:Int)(s:Int)(o:(Unit ⊕ Unit))(h:loopP (m49_1b a0 p1) s=some o):evCL T 0 (.loop k49_1b) (E49_1 a0 p1 s).1 (E49_1 a0 p1 s).2=some (X49_1 a0 p1 o) :=
 loop_walk (E:=E49_1 a0 p1) (X:=X49_1 a0 p1) (by intro b;rcases b with b | b<;>(simp only [X49_1];nofun)) (b49_1 a0 p1) s o h
noncomputable def X49_4 (s46:Int)(x48:Int)(a0:Attrs)(p25:Int)(o:Bool):Ex×Fr×St :=
 (.normal,frOf 74 (upd (upd (upd (upd (upd anyF 1 (.ptr 0 0 0)) 19 (.ts .imm 1 (a0.comms.map nInt))) 20 (nI p25)) 21 (nI s46)) 42 (.bool o)),[some ⟨.box,6,[(nAtt .imm a0)]⟩])
theorem e49_4 (s46:Int)(x48:Int)(a0:Attrs)(p25:Int)(o:Bool)(h:m49_4 s46 x48 a0=some o):evCL T 0 k49_4 (frOf 74 (upd (upd (upd (upd (upd (upd anyF 1 (.ptr 0 0 0)) 5 (nI s46)) 6 (nI x48)) 19 (.ts .imm 1 (a0.comms.map nInt))) 20 (nI p25)) 21 (nI s46))) [some ⟨.box,6,[(nAtt .imm a0)]⟩]=some (X49_4 s46 x48 a0 p25 o):=by
 unfold m49_4 at h;obtain ⟨r55,w54,h⟩:=bcall (e72 x48 0 1000000) h;try simp -implicitDefEqProofs only [go_sem] at w54
 rcases brx h with ⟨b56,h⟩|⟨b56,h⟩
 · cases h;simp -implicitDefEqProofs only [go_sem,X49_4,k49_4,w54,b56]
 · try simp -implicitDefEqProofs only [go_sem,X49_4,k49_4,w54,b56]
   rcases brx h with ⟨b57,h⟩|⟨b57,h⟩
   · cases h;simp -implicitDefEqProofs only [go_sem,X49_4,k49_4,w54,b56,b57]
   · obtain ⟨x58,g60,g61,g62,h⟩:=bidx nInt h;(try simp -implicitDefEqProofs only [go_sem] at g61 g62);cases h;simp -implicitDefEqProofs only [go_sem,X49_4,k49_4,w54,b56,b57,g60,g61,g62]
noncomputable def X49_2 (a0:Attrs)(p25:Int)(o:(Unit ⊕ Unit)):Ex×Fr×St :=
 match o with
 | .inl o=>(.exit 2,frOf 74 (upd anyF 1 (.ptr 0 0 0)),[some ⟨.box,6,[(nAtt .imm a0)]⟩])
 | .inr o=>(.ret,frOf 74 (upd anyF 2 (.bool false)),[])
noncomputable def E49_2 (a0:Attrs)(p25:Int)(s:Int):Fr×St:=(frOf 74 (upd (upd (upd (upd anyF 1 (.ptr 0 0 0)) 19 (.ts .imm 1 (a0.comms.map nInt))) 20 (nI p25)) 21 (nI s)),[some ⟨.box,6,[(nAtt .imm a0)]⟩])
theorem b49_2 (a0:Attrs)(p25:Int)(s:Int)(o:Ctl Int (Unit ⊕ Unit))(h:m49_2b a0 p25 s=some o):evCL T 0 k49_2b (E49_2 a0 p25 s).1 (E49_2 a0 p25 s).2=some (ctlX (E49_2 a0 p25) (X49_2 a0 p25) o):=by
 unfold m49_2b at h
 revert h
 generalize s=s46;intro h
 rcases brx h with ⟨b47,h⟩|⟨b47,h⟩
 · cases h;simp -implicitDefEqProofs only [go_sem,E49_2,X49_2,k49_2b,b47]
 · obtain ⟨x48,g50,g51,g52,h⟩:=bidx nInt h;obtain ⟨v65,w64,h⟩:=bcall (e49_4 s46 x48 a0 p25) h;(try simp -implicitDefEqProofs only [go_sem] at g51 g52);simp only [X49_4] at w64;try simp -implicitDefEqProofs only [go_sem] at w64
   rcases brx h with ⟨b66,h⟩|⟨b66,h⟩
   · cases h;simp -implicitDefEqProofs only [go_sem,E49_2,X49_2,k49_2b,b47,g50,g51,g52,w64,b66]
   · cases h;simp -implicitDefEqProofs only [go_sem,E49_2,X49_2,k49_2b,b47,g50,g51,g52,w64,b66]
theorem e49_2 (a0:Attrs)(p25:Int)(s:Int)(o:(Unit ⊕ Unit))(h:loopP (m49_2b a0 p25) s=some o):evCL T 0 (.loop k49_2b) (E49_2 a0 p25 s).1 (E49_2 a0 p25 s).2=some (X49_2 a0 p25 o) :=
 loop_walk (E:=E49_2 a0 p25) (X:=X49_2 a0 p25) (by intro b;rcases b with b | b<;>(simp only [X49_2];nofun)) (b49_2 a0 p25) s o h
noncomputable def X49_5 (a0:Attrs)(o:Bool):Ex×Fr×St :=
 (.normal,frOf 74 (upd anyF 2 (.bool o)),[])
theorem e49_5 (a0:Attrs)(o:Bool)(h:m49_5 a0=some o):evCL T 0 k49_5 (frOf 74 (upd anyF 1 (.ptr 0 0 0))) [some ⟨.box,6,[(nAtt .imm a0)]⟩]=some (X49_5 a0 o):=by
 unfold m49_5 at h;obtain ⟨r71,w70,h⟩:=bcall (e72 a0.origin 0 2) h;try simp -implicitDefEqProofs only [go_sem] at w70
 rcases brx h with ⟨b72,h⟩|⟨b72,h⟩
 · cases h;simp -implicitDefEqProofs only [go_sem,X49_5,k49_5,w70,b72]
 · try simp -implicitDefEqProofs only [go_sem,X49_5,k49_5,w70,b72]
   rcases brx h with ⟨b73,h⟩|⟨b73,h⟩
   · cases h;simp -implicitDefEqProofs only [go_sem,X49_5,k49_5,w70,b72,b73]
   · obtain ⟨r76,w75,h⟩:=bcall (e75 a0.next) h;try simp -implicitDefEqProofs only [go_sem] at w75
     rcases brx h with ⟨b77,h⟩|⟨b77,h⟩
     · cases h;simp -implicitDefEqProofs only [go_sem,X49_5,k49_5,w70,b72,b73,w75,b77]
     · obtain ⟨r80,w79,h⟩:=bcall (e72 a0.med 0 1000000) h;try simp -implicitDefEqProofs only [go_sem] at w79
       rcases brx h with ⟨b81,h⟩|⟨b81,h⟩
       · cases h;simp -implicitDefEqProofs only [go_sem,X49_5,k49_5,w70,b72,b73,w75,b77,w79,b81]
       · obtain ⟨r84,w83,h⟩:=bcall (e72 a0.pref 0 1000000) h;try simp -implicitDefEqProofs only [go_sem] at w83
         rcases brx h with ⟨b85,h⟩|⟨b85,h⟩
         · cases h;simp -implicitDefEqProofs only [go_sem,X49_5,k49_5,w70,b72,b73,w75,b77,w79,b81,w83,b85]
         · cases h;simp -implicitDefEqProofs only [go_sem,X49_5,k49_5,w70,b72,b73,w75,b77,w79,b81,w83,b85]
theorem e49 (a0:Attrs)(r:Bool)(h:m49 a0=some r):evFL T 49 [.agg (nAtt .imm a0)] []=some (.bool r,[]):=by
 unfold m49 at h;rw [evFL_at fn49 (Nat.le_of_ble_eq_true rfl) rfl (.inr rfl) ⟨rfl,rfl⟩];(try simp -implicitDefEqProofs only [go_sem,i49,c49]);obtain ⟨o,q23,h⟩:=bnd_some h
 rcases o with ⟨⟩|⟨⟩
 · replace h:=selS_l h;have w24:=e49_1 a0 (↑a0.path.length:Int) 0 (.inl ()) q23;simp only [E49_1,X49_1] at w24;(try simp -implicitDefEqProofs only [go_sem] at w24);(try simp -implicitDefEqProofs only [go_sem,i49,c49,w24]);obtain ⟨o,q67,h⟩:=bnd_some h
   rcases o with ⟨⟩|⟨⟩
   · replace h:=selS_l h;have w68:=e49_2 a0 (↑a0.comms.length:Int) 0 (.inl ()) q67;simp only [E49_2,X49_2] at w68;obtain ⟨v88,w87,h⟩:=bcall (e49_5 a0) h;(try simp -implicitDefEqProofs only [go_sem] at w68);simp only [X49_5] at w87;(try simp -implicitDefEqProofs only [go_sem] at w87);cases h;simp -implicitDefEqProofs only [go_sem,i49,c49,w24,w68,w87]
   · replace h:=selS_r h;have w68:=e49_2 a0 (↑a0.comms.length:Int) 0 (.inr ()) q67;simp only [E49_2,X49_2] at w68;(try simp -implicitDefEqProofs only [go_sem] at w68);cases h;simp -implicitDefEqProofs only [go_sem,i49,c49,w24,w68]
 · replace h:=selS_r h;have w24:=e49_1 a0 (↑a0.path.length:Int) 0 (.inr ()) q23;simp only [E49_1,X49_1] at w24;(try simp -implicitDefEqProofs only [go_sem] at w24);cases h;simp -implicitDefEqProofs only [go_sem,i49,c49,w24]
@[go_sem] theorem call26:CL 26 [[0,0,0,1,0,0,0,1]]:=evCall0 fn26 rfl rfl rfl
noncomputable def X26_1 (a0:Route)(o:Bool):Ex×Fr×St :=
 (.normal,frOf 11 (upd anyF 2 (.bool o)),[])
theorem e26_1 (a0:Route)(o:Bool)(h:m26_1 a0=some o):evCL T 0 k26_1 (frOf 11 (upd anyF 1 (.ptr 0 0 0))) [some ⟨.box,8,[(nRou .imm a0)]⟩]=some (X26_1 a0 o):=by
 unfold m26_1 at h;obtain ⟨r3,w2,h⟩:=bcall (e48 a0.prefix_) h;try simp -implicitDefEqProofs only [go_sem] at w2
 rcases brx h with ⟨b4,h⟩|⟨b4,h⟩
 · cases h;simp -implicitDefEqProofs only [go_sem,X26_1,k26_1,w2,b4]
 · obtain ⟨r7,w6,h⟩:=bcall (e49 a0.attrs) h;(try simp -implicitDefEqProofs only [go_sem] at w6);cases h;simp -implicitDefEqProofs only [go_sem,X26_1,k26_1,w2,b4,w6]
theorem e26 (a0:Route)(r:Bool)(h:m26 a0=some r):evFL T 26 [.agg (nRou .imm a0)] []=some (.bool r,[]):=by
 unfold m26 at h;rw [evFL_at fn26 (Nat.le_of_ble_eq_true rfl) rfl (.inr rfl) ⟨rfl,rfl⟩];obtain ⟨v10,w9,h⟩:=bcall (e26_1 a0) h;simp only [X26_1] at w9;(try simp -implicitDefEqProofs only [go_sem] at w9);cases h;simp -implicitDefEqProofs only [go_sem,i26,c26,w9]
@[go_sem] theorem call52:CL 52 [[0,1,0,0,0,1]]:=evCall0 fn52 rfl rfl rfl
theorem e52 (a0:Attrs)(r:Attrs)(h:m52 a0=some r):evFL T 52 [.agg (nAtt .imm a0)] []=some (.agg [nI r.origin,.sl 0 0 r.path.length,nI r.next,nI r.med,nI r.pref,.sl 1 0 r.comms.length],[some ⟨.arr,1,r.path.map nInt⟩,some ⟨.arr,1,r.comms.map nInt⟩]):=by
 unfold m52 at h;rw [evFL_at fn52 (Nat.le_of_ble_eq_true rfl) rfl (.inr rfl) ⟨rfl,rfl⟩];obtain ⟨g1,h⟩:=ck_some h;(try simp -implicitDefEqProofs only [go_sem] at g1);obtain ⟨g2,h⟩:=ck_some h;(try simp -implicitDefEqProofs only [go_sem] at g2);cases h;simp -implicitDefEqProofs only [go_sem,i52,c52,g1,g2]
@[go_sem] theorem call28:CL 28 [[0,0,0,1,0,0,0,1]]:=evCall0 fn28 rfl rfl rfl
theorem e28 (a0:Route)(r:Route)(h:m28 a0=some r):evFL T 28 [.agg (nRou .imm a0)] []=some (.agg [nI r.prefix_.addr,nI r.prefix_.len,nI r.attrs.origin,.sl 0 0 r.attrs.path.length,nI r.attrs.next,nI r.attrs.med,nI r.attrs.pref,.sl 1 0 r.attrs.comms.length],[some ⟨.arr,1,r.attrs.path.map nInt⟩,some ⟨.arr,1,r.attrs.comms.map nInt⟩]):=by
 unfold m28 at h;rw [evFL_at fn28 (Nat.le_of_ble_eq_true rfl) rfl (.inr rfl) ⟨rfl,rfl⟩];obtain ⟨r3,w2,h⟩:=bcall (e52 a0.attrs) h;(try simp -implicitDefEqProofs only [go_sem] at w2);cases h;simp -implicitDefEqProofs only [go_sem,i28,c28,w2]
@[go_sem] theorem call110:CL 110 [[0,0],[0]]:=evCall0 fn110 rfl rfl rfl
theorem e110 (a0:Prefix)(a1:Int)(r:Bool)(h:m110 a0 a1=some r):evFL T 110 [.agg (nPre a0),nI a1] []=some (.bool r,[]):=by
 unfold m110 at h;rw [evFL_at fn110 (Nat.le_of_ble_eq_true rfl) rfl (.inr rfl) ⟨rfl,rfl⟩];obtain ⟨r3,w2,h⟩:=bcall (e76 a0) h;(try simp -implicitDefEqProofs only [go_sem] at w2);obtain ⟨g4,h⟩:=ck_some h;(try simp -implicitDefEqProofs only [go_sem] at g4);cases h;simp -implicitDefEqProofs only [go_sem,i110,c110,w2,g4]
@[go_sem] theorem call77:CL 77 [[0,0],[0,0]]:=evCall0 fn77 rfl rfl rfl
noncomputable def X77_1 (a0:Prefix)(a1:Prefix)(o:Bool):Ex×Fr×St :=
 (.normal,frOf 16 (upd anyF 4 (.bool o)),[])
theorem e77_1 (a0:Prefix)(a1:Prefix)(o:Bool)(h:m77_1 a0 a1=some o):evCL T 0 k77_1 (frOf 16 (upd (upd anyF 2 (.ptr 0 0 0)) 3 (.ptr 1 0 0))) [some ⟨.box,2,[(nPre a0)]⟩,some ⟨.box,2,[(nPre a1)]⟩]=some (X77_1 a0 a1 o):=by
 unfold m77_1 at h
 rcases brx h with ⟨b1,h⟩|⟨b1,h⟩
 · cases h;simp -implicitDefEqProofs only [go_sem,X77_1,k77_1,b1]
 · obtain ⟨r4,w3,h⟩:=bcall (e110 a0 a1.addr) h;(try simp -implicitDefEqProofs only [go_sem] at w3);cases h;simp -implicitDefEqProofs only [go_sem,X77_1,k77_1,b1,w3]
theorem e77 (a0:Prefix)(a1:Prefix)(r:Bool)(h:m77 a0 a1=some r):evFL T 77 [.agg (nPre a0),.agg (nPre a1)] []=some (.bool r,[]):=by
 unfold m77 at h;rw [evFL_at fn77 (Nat.le_of_ble_eq_true rfl) rfl (.inr rfl) ⟨rfl,rfl⟩];obtain ⟨v7,w6,h⟩:=bcall (e77_1 a0 a1) h;simp only [X77_1] at w6;(try simp -implicitDefEqProofs only [go_sem] at w6);cases h;simp -implicitDefEqProofs only [go_sem,i77,c77,w6]
@[go_sem] theorem call111:CL 111 [[1]]:=evCall0 fn111 rfl rfl rfl
noncomputable def X111_1 (a0:List Int)(p1:Int)(o:(Unit ⊕ Unit)):Ex×Fr×St :=
 match o with
 | .inl o=>(.exit 0,frOf 18 (upd anyF 0 (.ts .imm 1 (a0.map nInt))),[])
 | .inr o=>(.ret,frOf 18 (upd anyF 2 (.bool false)),[])
noncomputable def E111_1 (a0:List Int)(p1:Int)(s:Int):Fr×St:=(frOf 18 (upd (upd (upd (upd anyF 0 (.ts .imm 1 (a0.map nInt))) 5 (.ts .imm 1 (a0.map nInt))) 6 (nI p1)) 7 (nI s)),[])
theorem b111_1 (a0:List Int)(p1:Int)(s:Int)(o:Ctl Int (Unit ⊕ Unit))(h:m111_1b a0 p1 s=some o):evCL T 0 k111_1b (E111_1 a0 p1 s).1 (E111_1 a0 p1 s).2=some (ctlX (E111_1 a0 p1) (X111_1 a0 p1) o):=by
 unfold m111_1b at h
 revert h
 generalize s=s12;intro h
 rcases brx h with ⟨b13,h⟩|⟨b13,h⟩
 · cases h;simp -implicitDefEqProofs only [go_sem,E111_1,X111_1,k111_1b,b13]
 · obtain ⟨x14,g16,g17,g18,h⟩:=bidx nInt h;obtain ⟨r21,w20,h⟩:=bcall (e72 x14 1 65535) h;try simp -implicitDefEqProofs only [go_sem] at g17 g18 w20
   rcases brx h with ⟨b22,h⟩|⟨b22,h⟩
   · cases h;simp -implicitDefEqProofs only [go_sem,E111_1,X111_1,k111_1b,b13,g16,g17,g18,w20,b22]
   · cases h;simp -implicitDefEqProofs only [go_sem,E111_1,X111_1,k111_1b,b13,g16,g17,g18,w20,b22]
theorem e111_1 (a0:List Int)(p1:Int)(s:Int)(o:(Unit ⊕ Unit))(h:loopP (m111_1b a0 p1) s=some o):evCL T 0 (.loop k111_1b) (E111_1 a0 p1 s).1 (E111_1 a0 p1 s).2=some (X111_1 a0 p1 o) :=
 loop_walk (E:=E111_1 a0 p1) (X:=X111_1 a0 p1) (by intro b;rcases b with b | b<;>(simp only [X111_1];nofun)) (b111_1 a0 p1) s o h
theorem e111 (a0:List Int)(r:Bool)(h:m111 a0=some r):evFL T 111 [.ts .imm 1 (a0.map nInt)] []=some (.bool r,[]):=by
 unfold m111 at h;rw [evFL_at fn111 (Nat.le_of_ble_eq_true rfl) rfl (.inr rfl) ⟨rfl,rfl⟩];(try simp -implicitDefEqProofs only [go_sem,i111,c111]);obtain ⟨o,q23,h⟩:=bnd_some h
 rcases o with ⟨⟩|⟨⟩
 · replace h:=selS_l h;have w24:=e111_1 a0 (↑a0.length:Int) 0 (.inl ()) q23;simp only [E111_1,X111_1] at w24;(try simp -implicitDefEqProofs only [go_sem] at w24);cases h;simp -implicitDefEqProofs only [go_sem,i111,c111,w24]
 · replace h:=selS_r h;have w24:=e111_1 a0 (↑a0.length:Int) 0 (.inr ()) q23;simp only [E111_1,X111_1] at w24;(try simp -implicitDefEqProofs only [go_sem] at w24);cases h;simp -implicitDefEqProofs only [go_sem,i111,c111,w24]
@[go_sem] theorem call80 (args:List AV)(S:St):evCall T (evFL T) 80 args S=c3A true true (evFL T 80) (rawAll S [[1],[0]] args):=evCall3_g fn80 rfl (fun h=>absurd h.1 (by decide)) args S
noncomputable def X80_3 (a1:Int)(s11:Int)(a0:List Int)(o:Bool):Ex×Fr×St :=
 (.normal,frOf 48 (upd (upd (upd (upd anyF 0 (.sl 1 0 a0.length)) 1 (nI a1)) 5 (nI s11)) 18 (.bool o)),[none,some ⟨.arr,1,a0.map nInt⟩])
theorem e80_3 (a1:Int)(s11:Int)(a0:List Int)(o:Bool)(h:m80_3 a1 s11 a0=some o):evCL T 1 k80_3 (frOf 48 (upd (upd (upd anyF 0 (.sl 1 0 a0.length)) 1 (nI a1)) 5 (nI s11))) [none,some ⟨.arr,1,a0.map nInt⟩]=some (X80_3 a1 s11 a0 o):=by
 unfold m80_3 at h
 rcases brx h with ⟨b12,h⟩|⟨b12,h⟩
 · cases h;simp -implicitDefEqProofs only [go_sem,X80_3,k80_3,b12]
 · obtain ⟨x13,g15,g16,g17,h⟩:=bidx nInt h;(try simp -implicitDefEqProofs only [go_sem] at g16 g17);cases h;simp -implicitDefEqProofs only [go_sem,X80_3,k80_3,b12,g15,g16,g17]
noncomputable def X80_1 (a1:Int)(a0:List Int)(o:Int):Ex×Fr×St :=
 (.exit 0,frOf 48 (upd (upd (upd anyF 0 (.sl 1 0 a0.length)) 1 (nI a1)) 5 (nI o)),[none,some ⟨.arr,1,a0.map nInt⟩])
noncomputable def E80_1 (a1:Int)(a0:List Int)(s:Int):Fr×St:=(frOf 48 (upd (upd (upd anyF 0 (.sl 1 0 a0.length)) 1 (nI a1)) 5 (nI s)),[none,some ⟨.arr,1,a0.map nInt⟩])
theorem b80_1 (a1:Int)(a0:List Int)(s:Int)(o:Ctl Int Int)(h:m80_1b a1 a0 s=some o):evCL T 1 k80_1b (E80_1 a1 a0 s).1 (E80_1 a1 a0 s).2=some (ctlX (E80_1 a1 a0) (X80_1 a1 a0) o):=by
 unfold m80_1b at h
 revert h
 generalize s=s11;intro h;obtain ⟨v20,w19,h⟩:=bcall (e80_3 a1 s11 a0) h;simp only [X80_3] at w19;try simp -implicitDefEqProofs only [go_sem] at w19
 rcases brx h with ⟨b21,h⟩|⟨b21,h⟩
 · cases h;simp -implicitDefEqProofs only [go_sem,E80_1,X80_1,k80_1b,w19,b21]
 · cases h;simp -implicitDefEqProofs only [go_sem,E80_1,X80_1,k80_1b,w19,b21]
theorem e80_1 (a1:Int)(a0:List Int)(s:Int)(o:Int)(h:loopP (m80_1b a1 a0) s=some o):evCL T 1 (.loop k80_1b) (E80_1 a1 a0 s).1 (E80_1 a1 a0 s).2=some (X80_1 a1 a0 o) :=
 loop_walk (E:=E80_1 a1 a0) (X:=X80_1 a1 a0) (by intro b;(simp only [X80_1];nofun)) (b80_1 a1 a0) s o h
noncomputable def X80_4 (a1:Int)(v24:Int)(a0:List Int)(o:Bool):Ex×Fr×St :=
 (.normal,frOf 48 (upd (upd (upd (upd anyF 0 (.sl 1 0 a0.length)) 1 (nI a1)) 5 (nI v24)) 32 (.bool o)),[none,some ⟨.arr,1,a0.map nInt⟩])
theorem e80_4 (a1:Int)(v24:Int)(a0:List Int)(o:Bool)(h:m80_4 a1 v24 a0=some o):evCL T 1 k80_4 (frOf 48 (upd (upd (upd anyF 0 (.sl 1 0 a0.length)) 1 (nI a1)) 5 (nI v24))) [none,some ⟨.arr,1,a0.map nInt⟩]=some (X80_4 a1 v24 a0 o):=by
 unfold m80_4 at h
 rcases brx h with ⟨b25,h⟩|⟨b25,h⟩
 · cases h;simp -implicitDefEqProofs only [go_sem,X80_4,k80_4,b25]
 · obtain ⟨x26,g28,g29,g30,h⟩:=bidx nInt h;(try simp -implicitDefEqProofs only [go_sem] at g29 g30);cases h;simp -implicitDefEqProofs only [go_sem,X80_4,k80_4,b25,g28,g29,g30]
theorem e80 (a0:List Int)(a1:Int)(r:List Int)(h:m80 a0 a1=some r):evFL T 80 [.sl 0 0 a0.length,nI a1] [some ⟨.arr,1,a0.map nInt⟩]=some (.sl 1 0 r.length,[none,some ⟨.arr,1,r.map nInt⟩]):=by
 unfold m80 at h;rw [evFL_at fn80 (Nat.le_of_ble_eq_true rfl) rfl (.inl rfl) ⟨rfl,rfl⟩];obtain ⟨v24,w23,h⟩:=bcall (e80_1 a1 a0 0) h;simp only [E80_1,X80_1] at w23;obtain ⟨v33,w32,h⟩:=bcall (e80_4 a1 v24 a0) h;(try simp -implicitDefEqProofs only [go_sem] at w23);simp only [X80_4] at w32;try simp -implicitDefEqProofs only [go_sem] at w32
 rcases brx h with ⟨b34,h⟩|⟨b34,h⟩
 · obtain ⟨g35,h⟩:=ck_some h;try simp -implicitDefEqProofs only [go_sem] at g35
   have g36:0+(v24.toNat)≤a0.length:=by (try simp only [List.length_take,List.length_drop,List.length_append,List.length_set,List.length_cons,List.length_nil]);omega
   have g37:v24.toNat≤a0.length:=by (try simp only [List.length_take,List.length_drop,List.length_append,List.length_set,List.length_cons,List.length_nil]);omega
   obtain ⟨g38,h⟩:=ck_some h;(try simp -implicitDefEqProofs only [go_sem] at g38);(try simp -implicitDefEqProofs only [go_sem,g36,g37] at g38);obtain ⟨g39,h⟩:=ck_some h;(try simp -implicitDefEqProofs only [go_sem] at g39);(try simp -implicitDefEqProofs only [go_sem,g36,g37] at g39);obtain ⟨g40,h⟩:=ck_some h;try simp -implicitDefEqProofs only [go_sem] at g40
   have g41:v24.toNat+(a0.length-v24.toNat)≤a0.length:=by (try simp only [List.length_take,List.length_drop,List.length_append,List.length_set,List.length_cons,List.length_nil]);omega
   obtain ⟨g42,h⟩:=ck_some h;(try simp -implicitDefEqProofs only [go_sem] at g42);(try simp -implicitDefEqProofs only [go_sem,g36,g37,g41] at g42);cases h;simp -implicitDefEqProofs only [go_sem,i80,c80,w23,w32,b34,g35,g36,g37,g38,g39,g40,g41,g42]
 · cases h;simp -implicitDefEqProofs only [go_sem,i80,c80,w23,w32,b34]
@[go_sem] theorem call112:CL 112 [[0,0,3],[1],[0]]:=evCall0 fn112 rfl rfl rfl
noncomputable def X112_1 (a1:List Int)(a2:Int)(a0:l6T)(p2:Bool)(o:Bool):Ex×Fr×St :=
 (.normal,frOf 145 (upd (upd (upd (upd (upd anyF 1 (.ts .imm 1 (a1.map nInt))) 2 (nI a2)) 3 (.ptr 0 0 0)) 22 (nI a0.kind_)) 27 (.bool o)),[some ⟨.box,3,[[nI a0.kind_,nI a0.n_,.ts .imm 3 (a0.kids_.map (nl6T .imm))]]⟩])
theorem e112_1 (rc:l6T→(List Int)→Int→Option (List Int))(hrc:∀(a0:l6T) (a1:List Int) (a2:Int) (r:List Int),rc a0 a1 a2=some r→evFL T 112 [.agg [nI a0.kind_,nI a0.n_,.ts .imm 3 (a0.kids_.map (nl6T .imm))],.ts .imm 1 (a1.map nInt),nI a2] []=some (.sl 0 0 r.length,[some ⟨.arr,1,r.map nInt⟩]))(a1:List Int)(a2:Int)(a0:l6T)(p2:Bool)(o:Bool)(h:m112_1 rc a0 p2=some o):evCL T 0 k112_1 (frOf 145 (upd (upd (upd (upd (upd anyF 1 (.ts .imm 1 (a1.map nInt))) 2 (nI a2)) 3 (.ptr 0 0 0)) 22 (nI a0.kind_)) 27 (.bool p2))) [some ⟨.box,3,[[nI a0.kind_,nI a0.n_,.ts .imm 3 (a0.kids_.map (nl6T .imm))]]⟩]=some (X112_1 a1 a2 a0 p2 o):=by
 unfold m112_1 at h
 rcases brx h with ⟨b3,h⟩|⟨b3,h⟩
 · cases h;simp -implicitDefEqProofs only [go_sem,X112_1,k112_1,b3]
 · cases h;simp -implicitDefEqProofs only [go_sem,X112_1,k112_1,b3]
noncomputable def X112_3 (a1:List Int)(a2:Int)(a0:l6T)(o:Bool):Ex×Fr×St :=
 (.normal,frOf 145 (upd (upd anyF 2 (nI a2)) 47 (.bool o)),[])
theorem e112_3 (rc:l6T→(List Int)→Int→Option (List Int))(hrc:∀(a0:l6T) (a1:List Int) (a2:Int) (r:List Int),rc a0 a1 a2=some r→evFL T 112 [.agg [nI a0.kind_,nI a0.n_,.ts .imm 3 (a0.kids_.map (nl6T .imm))],.ts .imm 1 (a1.map nInt),nI a2] []=some (.sl 0 0 r.length,[some ⟨.arr,1,r.map nInt⟩]))(a1:List Int)(a2:Int)(a0:l6T)(o:Bool)(h:m112_3 rc a1 a2 a0=some o):evCL T 0 k112_3 (frOf 145 (upd (upd (upd anyF 1 (.ts .imm 1 (a1.map nInt))) 2 (nI a2)) 3 (.ptr 0 0 0))) [some ⟨.box,3,[[nI a0.kind_,nI a0.n_,.ts .imm 3 (a0.kids_.map (nl6T .imm))]]⟩]=some (X112_3 a1 a2 a0 o):=by
 unfold m112_3 at h
 rcases brx h with ⟨b8,h⟩|⟨b8,h⟩
 · cases h;simp -implicitDefEqProofs only [go_sem,X112_3,k112_3,b8]
 · try simp -implicitDefEqProofs only [go_sem,X112_3,k112_3,b8]
   rcases brx h with ⟨b9,h⟩|⟨b9,h⟩
   · obtain ⟨x10,g12,g13,g14,h⟩:=bidx nInt h;(try simp -implicitDefEqProofs only [go_sem] at g13 g14);cases h;simp -implicitDefEqProofs only [go_sem,X112_3,k112_3,b8,b9,g12,g13,g14]
   · cases h;simp -implicitDefEqProofs only [go_sem,X112_3,k112_3,b8,b9]
noncomputable def X112_4 (p36:Int)(r35:List Int)(o:List Int):Ex×Fr×St :=
 (.exit 1,frOf 145 (upd anyF 7 (.sl 0 0 o.length)),[some ⟨.arr,1,o.map nInt⟩])
noncomputable def E112_4 (p36:Int)(r35:List Int)(s:(Int×List Int)):Fr×St:=(frOf 145 (upd (upd (upd (upd anyF 7 (.sl 0 0 s.2.length)) 66 (.sl 1 0 r35.length)) 67 (nI p36)) 68 (nI s.1)),[some ⟨.arr,1,s.2.map nInt⟩,some ⟨.arr,1,r35.map nInt⟩])
theorem b112_4 (rc:l6T→(List Int)→Int→Option (List Int))(hrc:∀(a0:l6T) (a1:List Int) (a2:Int) (r:List Int),rc a0 a1 a2=some r→evFL T 112 [.agg [nI a0.kind_,nI a0.n_,.ts .imm 3 (a0.kids_.map (nl6T .imm))],.ts .imm 1 (a1.map nInt),nI a2] []=some (.sl 0 0 r.length,[some ⟨.arr,1,r.map nInt⟩]))(p36:Int)(r35:List Int)(s:(Int×List Int))(o:Ctl (Int×List Int) (List Int))(h:m112_4b rc p36 r35 s=some o):evCL T 0 k112_4b (E112_4 p36 r35 s).1 (E112_4 p36 r35 s).2=some (ctlX (E112_4 p36 r35) (X112_4 p36 r35) o):=by
 unfold m112_4b at h;obtain ⟨s46,s47⟩:=s;replace h:=sel2_some h
 rcases brx h with ⟨b48,h⟩|⟨b48,h⟩
 · cases h;simp -implicitDefEqProofs only [go_sem,E112_4,X112_4,k112_4b,b48]
 · obtain ⟨x49,g51,g52,g53,h⟩:=bidx nInt h;obtain ⟨r56,w55,h⟩:=bcall (e80 s47 x49) h;(try simp -implicitDefEqProofs only [go_sem] at g52 g53 w55);cases h;simp -implicitDefEqProofs only [go_sem,E112_4,X112_4,k112_4b,b48,g51,g52,g53,w55]
theorem e112_4 (rc:l6T→(List Int)→Int→Option (List Int))(hrc:∀(a0:l6T) (a1:List Int) (a2:Int) (r:List Int),rc a0 a1 a2=some r→evFL T 112 [.agg [nI a0.kind_,nI a0.n_,.ts .imm 3 (a0.kids_.map (nl6T .imm))],.ts .imm 1 (a1.map nInt),nI a2] []=some (.sl 0 0 r.length,[some ⟨.arr,1,r.map nInt⟩]))(p36:Int)(r35:List Int)(s:(Int×List Int))(o:List Int)(h:loopP (m112_4b rc p36 r35) s=some o):evCL T 0 (.loop k112_4b) (E112_4 p36 r35 s).1 (E112_4 p36 r35 s).2=some (X112_4 p36 r35 o) :=
 loop_walk (E:=E112_4 p36 r35) (X:=X112_4 p36 r35) (by intro b;(simp only [X112_4];nofun)) (b112_4 rc hrc p36 r35) s o h
noncomputable def X112_7 (a1:List Int)(p69:Int)(s108:Int)(p124:Int)(a0:l6T)(r68:List Int)(r123:List Int)(o:List Int):Ex×Fr×St :=
 (.exit 5,frOf 145 (upd (upd (upd (upd (upd (upd anyF 1 (.ts .imm 1 (a1.map nInt))) 3 (.ptr 0 0 0)) 10 (.sl 1 0 o.length)) 85 (.sl 2 0 r68.length)) 86 (nI p69)) 87 (nI s108)),[some ⟨.box,3,[[nI a0.kind_,nI a0.n_,.ts .imm 3 (a0.kids_.map (nl6T .imm))]]⟩,some ⟨.arr,1,o.map nInt⟩,some ⟨.arr,1,r68.map nInt⟩])
noncomputable def E112_7 (a1:List Int)(p69:Int)(s108:Int)(p124:Int)(a0:l6T)(r68:List Int)(r123:List Int)(s:(Int×List Int)):Fr×St:=(frOf 145 (upd (upd (upd (upd (upd (upd (upd (upd (upd anyF 1 (.ts .imm 1 (a1.map nInt))) 3 (.ptr 0 0 0)) 10 (.sl 1 0 s.2.length)) 85 (.sl 2 0 r68.length)) 86 (nI p69)) 87 (nI s108)) 97 (.sl 3 0 r123.length)) 98 (nI p124)) 99 (nI s.1)),[some ⟨.box,3,[[nI a0.kind_,nI a0.n_,.ts .imm 3 (a0.kids_.map (nl6T .imm))]]⟩,some ⟨.arr,1,s.2.map nInt⟩,some ⟨.arr,1,r68.map nInt⟩,some ⟨.arr,1,r123.map nInt⟩])
theorem b112_7 (rc:l6T→(List Int)→Int→Option (List Int))(hrc:∀(a0:l6T) (a1:List Int) (a2:Int) (r:List Int),rc a0 a1 a2=some r→evFL T 112 [.agg [nI a0.kind_,nI a0.n_,.ts .imm 3 (a0.kids_.map (nl6T .imm))],.ts .imm 1 (a1.map nInt),nI a2] []=some (.sl 0 0 r.length,[some ⟨.arr,1,r.map nInt⟩]))(a1:List Int)(p69:Int)(s108:Int)(p124:Int)(a0:l6T)(r68:List Int)(r123:List Int)(s:(Int×List Int))(o:Ctl (Int×List Int) (List Int))(h:m112_7b rc p124 r123 s=some o):evCL T 0 k112_7b (E112_7 a1 p69 s108 p124 a0 r68 r123 s).1 (E112_7 a1 p69 s108 p124 a0 r68 r123 s).2=some (ctlX (E112_7 a1 p69 s108 p124 a0 r68 r123) (X112_7 a1 p69 s108 p124 a0 r68 r123) o):=by
 unfold m112_7b at h;obtain ⟨s134,s135⟩:=s;replace h:=sel2_some h
 rcases brx h with ⟨b136,h⟩|⟨b136,h⟩
 · cases h;simp -implicitDefEqProofs only [go_sem,E112_7,X112_7,k112_7b,b136]
 · obtain ⟨x137,g139,g140,g141,h⟩:=bidx nInt h;obtain ⟨r144,w143,h⟩:=bcall (e80 s135 x137) h;(try simp -implicitDefEqProofs only [go_sem] at g140 g141 w143);cases h;simp -implicitDefEqProofs only [go_sem,E112_7,X112_7,k112_7b,b136,g139,g140,g141,w143]
theorem e112_7 (rc:l6T→(List Int)→Int→Option (List Int))(hrc:∀(a0:l6T) (a1:List Int) (a2:Int) (r:List Int),rc a0 a1 a2=some r→evFL T 112 [.agg [nI a0.kind_,nI a0.n_,.ts .imm 3 (a0.kids_.map (nl6T .imm))],.ts .imm 1 (a1.map nInt),nI a2] []=some (.sl 0 0 r.length,[some ⟨.arr,1,r.map nInt⟩]))(a1:List Int)(p69:Int)(s108:Int)(p124:Int)(a0:l6T)(r68:List Int)(r123:List Int)(s:(Int×List Int))(o:List Int)(h:loopP (m112_7b rc p124 r123) s=some o):evCL T 0 (.loop k112_7b) (E112_7 a1 p69 s108 p124 a0 r68 r123 s).1 (E112_7 a1 p69 s108 p124 a0 r68 r123 s).2=some (X112_7 a1 p69 s108 p124 a0 r68 r123 o) :=
 loop_walk (E:=E112_7 a1 p69 s108 p124 a0 r68 r123) (X:=X112_7 a1 p69 s108 p124 a0 r68 r123) (by intro b;(simp only [X112_7];nofun)) (b112_7 rc hrc a1 p69 s108 p124 a0 r68 r123) s o h
noncomputable def X112_5 (a1:List Int)(p69:Int)(a0:l6T)(r68:List Int)(o:List Int):Ex×Fr×St :=
 (.exit 3,frOf 145 (upd anyF 10 (.sl 0 0 o.length)),[some ⟨.arr,1,o.map nInt⟩])
noncomputable def E112_5 (a1:List Int)(p69:Int)(a0:l6T)(r68:List Int)(s:(Int×List Int)):Fr×St:=(frOf 145 (upd (upd (upd (upd (upd (upd anyF 1 (.ts .imm 1 (a1.map nInt))) 3 (.ptr 0 0 0)) 10 (.sl 1 0 s.2.length)) 85 (.sl 2 0 r68.length)) 86 (nI p69)) 87 (nI s.1)),[some ⟨.box,3,[[nI a0.kind_,nI a0.n_,.ts .imm 3 (a0.kids_.map (nl6T .imm))]]⟩,some ⟨.arr,1,s.2.map nInt⟩,some ⟨.arr,1,r68.map nInt⟩])
theorem b112_5 (rc:l6T→(List Int)→Int→Option (List Int))(hrc:∀(a0:l6T) (a1:List Int) (a2:Int) (r:List Int),rc a0 a1 a2=some r→evFL T 112 [.agg [nI a0.kind_,nI a0.n_,.ts .imm 3 (a0.kids_.map (nl6T .imm))],.ts .imm 1 (a1.map nInt),nI a2] []=some (.sl 0 0 r.length,[some ⟨.arr,1,r.map nInt⟩]))(a1:List Int)(p69:Int)(a0:l6T)(r68:List Int)(s:(Int×List Int))(o:Ctl (Int×List Int) (List Int))(h:m112_5b rc a1 p69 a0 r68 s=some o):evCL T 0 k112_5b (E112_5 a1 p69 a0 r68 s).1 (E112_5 a1 p69 a0 r68 s).2=some (ctlX (E112_5 a1 p69 a0 r68) (X112_5 a1 p69 a0 r68) o):=by
 unfold m112_5b at h;obtain ⟨s108,s109⟩:=s;replace h:=sel2_some h
 rcases brx h with ⟨b110,h⟩|⟨b110,h⟩
 · cases h;simp -implicitDefEqProofs only [go_sem,E112_5,X112_5,k112_5b,b110]
 · obtain ⟨x111,g113,g114,g115,h⟩:=bidx nInt h;obtain ⟨x116,g118,g119,g120,h⟩:=bidx (nl6T .imm) h;obtain ⟨r123,w122,h⟩:=bcall (hrc x116 a1 x111) h;obtain ⟨v147,w146,h⟩:=bcall (e112_7 rc hrc a1 p69 s108 (↑r123.length:Int) a0 r68 r123 (0,s109)) h;(try simp -implicitDefEqProofs only [go_sem] at g114 g115 g119 g120 w122);simp only [E112_7,X112_7] at w146;(try simp -implicitDefEqProofs only [go_sem] at w146);cases h;simp -implicitDefEqProofs only [go_sem,E112_5,X112_5,k112_5b,b110,g113,g114,g115,g118,g119,g120,w122,w146]
theorem e112_5 (rc:l6T→(List Int)→Int→Option (List Int))(hrc:∀(a0:l6T) (a1:List Int) (a2:Int) (r:List Int),rc a0 a1 a2=some r→evFL T 112 [.agg [nI a0.kind_,nI a0.n_,.ts .imm 3 (a0.kids_.map (nl6T .imm))],.ts .imm 1 (a1.map nInt),nI a2] []=some (.sl 0 0 r.length,[some ⟨.arr,1,r.map nInt⟩]))(a1:List Int)(p69:Int)(a0:l6T)(r68:List Int)(s:(Int×List Int))(o:List Int)(h:loopP (m112_5b rc a1 p69 a0 r68) s=some o):evCL T 0 (.loop k112_5b) (E112_5 a1 p69 a0 r68 s).1 (E112_5 a1 p69 a0 r68 s).2=some (X112_5 a1 p69 a0 r68 o) :=
 loop_walk (E:=E112_5 a1 p69 a0 r68) (X:=X112_5 a1 p69 a0 r68) (by intro b;(simp only [X112_5];nofun)) (b112_5 rc hrc a1 p69 a0 r68) s o h
noncomputable def X112_14 (a1:List Int)(p240:Int)(p241:Int)(s280:Int)(p296:Int)(a0:l6T)(s238:List Int)(r295:List Int)(o:List Int):Ex×Fr×St :=
 (.exit 11,frOf 145 (upd (upd (upd (upd (upd (upd (upd anyF 1 (.ts .imm 1 (a1.map nInt))) 3 (.ptr 0 0 0)) 15 (.sl 1 0 o.length)) 16 (nI p240)) 117 (.sl 2 0 s238.length)) 118 (nI p241)) 119 (nI s280)),[some ⟨.box,3,[[nI a0.kind_,nI a0.n_,.ts .imm 3 (a0.kids_.map (nl6T .imm))]]⟩,some ⟨.arr,1,o.map nInt⟩,some ⟨.arr,1,s238.map nInt⟩])
noncomputable def E112_14 (a1:List Int)(p240:Int)(p241:Int)(s280:Int)(p296:Int)(a0:l6T)(s238:List Int)(r295:List Int)(s:(Int×List Int)):Fr×St:=(frOf 145 (upd (upd (upd (upd (upd (upd (upd (upd (upd (upd anyF 1 (.ts .imm 1 (a1.map nInt))) 3 (.ptr 0 0 0)) 15 (.sl 1 0 s.2.length)) 16 (nI p240)) 117 (.sl 2 0 s238.length)) 118 (nI p241)) 119 (nI s280)) 129 (.sl 3 0 r295.length)) 130 (nI p296)) 131 (nI s.1)),[some ⟨.box,3,[[nI a0.kind_,nI a0.n_,.ts .imm 3 (a0.kids_.map (nl6T .imm))]]⟩,some ⟨.arr,1,s.2.map nInt⟩,some ⟨.arr,1,s238.map nInt⟩,some ⟨.arr,1,r295.map nInt⟩])
theorem b112_14 (rc:l6T→(List Int)→Int→Option (List Int))(hrc:∀(a0:l6T) (a1:List Int) (a2:Int) (r:List Int),rc a0 a1 a2=some r→evFL T 112 [.agg [nI a0.kind_,nI a0.n_,.ts .imm 3 (a0.kids_.map (nl6T .imm))],.ts .imm 1 (a1.map nInt),nI a2] []=some (.sl 0 0 r.length,[some ⟨.arr,1,r.map nInt⟩]))(a1:List Int)(p240:Int)(p241:Int)(s280:Int)(p296:Int)(a0:l6T)(s238:List Int)(r295:List Int)(s:(Int×List Int))(o:Ctl (Int×List Int) (List Int))(h:m112_14b rc p296 r295 s=some o):evCL T 0 k112_14b (E112_14 a1 p240 p241 s280 p296 a0 s238 r295 s).1 (E112_14 a1 p240 p241 s280 p296 a0 s238 r295 s).2=some (ctlX (E112_14 a1 p240 p241 s280 p296 a0 s238 r295) (X112_14 a1 p240 p241 s280 p296 a0 s238 r295) o):=by
 unfold m112_14b at h;obtain ⟨s306,s307⟩:=s;replace h:=sel2_some h
 rcases brx h with ⟨b308,h⟩|⟨b308,h⟩
 · cases h;simp -implicitDefEqProofs only [go_sem,E112_14,X112_14,k112_14b,b308]
 · obtain ⟨x309,g311,g312,g313,h⟩:=bidx nInt h;obtain ⟨r316,w315,h⟩:=bcall (e80 s307 x309) h;(try simp -implicitDefEqProofs only [go_sem] at g312 g313 w315);cases h;simp -implicitDefEqProofs only [go_sem,E112_14,X112_14,k112_14b,b308,g311,g312,g313,w315]
theorem e112_14 (rc:l6T→(List Int)→Int→Option (List Int))(hrc:∀(a0:l6T) (a1:List Int) (a2:Int) (r:List Int),rc a0 a1 a2=some r→evFL T 112 [.agg [nI a0.kind_,nI a0.n_,.ts .imm 3 (a0.kids_.map (nl6T .imm))],.ts .imm 1 (a1.map nInt),nI a2] []=some (.sl 0 0 r.length,[some ⟨.arr,1,r.map nInt⟩]))(a1:List Int)(p240:Int)(p241:Int)(s280:Int)(p296:Int)(a0:l6T)(s238:List Int)(r295:List Int)(s:(Int×List Int))(o:List Int)(h:loopP (m112_14b rc p296 r295) s=some o):evCL T 0 (.loop k112_14b) (E112_14 a1 p240 p241 s280 p296 a0 s238 r295 s).1 (E112_14 a1 p240 p241 s280 p296 a0 s238 r295 s).2=some (X112_14 a1 p240 p241 s280 p296 a0 s238 r295 o) :=
 loop_walk (E:=E112_14 a1 p240 p241 s280 p296 a0 s238 r295) (X:=X112_14 a1 p240 p241 s280 p296 a0 s238 r295) (by intro b;(simp only [X112_14];nofun)) (b112_14 rc hrc a1 p240 p241 s280 p296 a0 s238 r295) s o h
noncomputable def X112_12 (a1:List Int)(p240:Int)(p241:Int)(a0:l6T)(s238:List Int)(o:List Int):Ex×Fr×St :=
 (.exit 9,frOf 145 (upd (upd (upd (upd anyF 1 (.ts .imm 1 (a1.map nInt))) 3 (.ptr 0 0 0)) 15 (.sl 1 0 o.length)) 16 (nI p240)),[some ⟨.box,3,[[nI a0.kind_,nI a0.n_,.ts .imm 3 (a0.kids_.map (nl6T .imm))]]⟩,some ⟨.arr,1,o.map nInt⟩])
noncomputable def E112_12 (a1:List Int)(p240:Int)(p241:Int)(a0:l6T)(s238:List Int)(s:(Int×List Int)):Fr×St:=(frOf 145 (upd (upd (upd (upd (upd (upd (upd anyF 1 (.ts .imm 1 (a1.map nInt))) 3 (.ptr 0 0 0)) 15 (.sl 1 0 s.2.length)) 16 (nI p240)) 117 (.sl 2 0 s238.length)) 118 (nI p241)) 119 (nI s.1)),[some ⟨.box,3,[[nI a0.kind_,nI a0.n_,.ts .imm 3 (a0.kids_.map (nl6T .imm))]]⟩,some ⟨.arr,1,s.2.map nInt⟩,some ⟨.arr,1,s238.map nInt⟩])
theorem b112_12 (rc:l6T→(List Int)→Int→Option (List Int))(hrc:∀(a0:l6T) (a1:List Int) (a2:Int) (r:List Int),rc a0 a1 a2=some r→evFL T 112 [.agg [nI a0.kind_,nI a0.n_,.ts .imm 3 (a0.kids_.map (nl6T .imm))],.ts .imm 1 (a1.map nInt),nI a2] []=some (.sl 0 0 r.length,[some ⟨.arr,1,r.map nInt⟩]))(a1:List Int)(p240:Int)(p241:Int)(a0:l6T)(s238:List Int)(s:(Int×List Int))(o:Ctl (Int×List Int) (List Int))(h:m112_12b rc a1 p241 a0 s238 s=some o):evCL T 0 k112_12b (E112_12 a1 p240 p241 a0 s238 s).1 (E112_12 a1 p240 p241 a0 s238 s).2=some (ctlX (E112_12 a1 p240 p241 a0 s238) (X112_12 a1 p240 p241 a0 s238) o):=by
 unfold m112_12b at h;obtain ⟨s280,s281⟩:=s;replace h:=sel2_some h
 rcases brx h with ⟨b282,h⟩|⟨b282,h⟩
 · cases h;simp -implicitDefEqProofs only [go_sem,E112_12,X112_12,k112_12b,b282]
 · obtain ⟨x283,g285,g286,g287,h⟩:=bidx nInt h;obtain ⟨x288,g290,g291,g292,h⟩:=bidx (nl6T .imm) h;obtain ⟨r295,w294,h⟩:=bcall (hrc x288 a1 x283) h;obtain ⟨v319,w318,h⟩:=bcall (e112_14 rc hrc a1 p240 p241 s280 (↑r295.length:Int) a0 s238 r295 (0,s281)) h;(try simp -implicitDefEqProofs only [go_sem] at g286 g287 g291 g292 w294);simp only [E112_14,X112_14] at w318;(try simp -implicitDefEqProofs only [go_sem] at w318);cases h;simp -implicitDefEqProofs only [go_sem,E112_12,X112_12,k112_12b,b282,g285,g286,g287,g290,g291,g292,w294,w318]
theorem e112_12 (rc:l6T→(List Int)→Int→Option (List Int))(hrc:∀(a0:l6T) (a1:List Int) (a2:Int) (r:List Int),rc a0 a1 a2=some r→evFL T 112 [.agg [nI a0.kind_,nI a0.n_,.ts .imm 3 (a0.kids_.map (nl6T .imm))],.ts .imm 1 (a1.map nInt),nI a2] []=some (.sl 0 0 r.length,[some ⟨.arr,1,r.map nInt⟩]))(a1:List Int)(p240:Int)(p241:Int)(a0:l6T)(s238:List Int)(s:(Int×List Int))(o:List Int)(h:loopP (m112_12b rc a1 p241 a0 s238) s=some o):evCL T 0 (.loop k112_12b) (E112_12 a1 p240 p241 a0 s238 s).1 (E112_12 a1 p240 p241 a0 s238 s).2=some (X112_12 a1 p240 p241 a0 s238 o) :=
 loop_walk (E:=E112_12 a1 p240 p241 a0 s238) (X:=X112_12 a1 p240 p241 a0 s238) (by intro b;(simp only [X112_12];nofun)) (b112_12 rc hrc a1 p240 p241 a0 s238) s o h
noncomputable def X112_8 (a1:List Int)(a0:l6T)(o:List Int):Ex×Fr×St :=
 (.ret,frOf 145 (upd anyF 6 (.sl 0 0 o.length)),[some ⟨.arr,1,o.map nInt⟩])
noncomputable def E112_8 (a1:List Int)(a0:l6T)(s:List Int):Fr×St:=(frOf 145 (upd (upd (upd anyF 1 (.ts .imm 1 (a1.map nInt))) 3 (.ptr 0 0 0)) 15 (.sl 1 0 s.length)),[some ⟨.box,3,[[nI a0.kind_,nI a0.n_,.ts .imm 3 (a0.kids_.map (nl6T .imm))]]⟩,some ⟨.arr,1,s.map nInt⟩])
theorem b112_8 (rc:l6T→(List Int)→Int→Option (List Int))(hrc:∀(a0:l6T) (a1:List Int) (a2:Int) (r:List Int),rc a0 a1 a2=some r→evFL T 112 [.agg [nI a0.kind_,nI a0.n_,.ts .imm 3 (a0.kids_.map (nl6T .imm))],.ts .imm 1 (a1.map nInt),nI a2] []=some (.sl 0 0 r.length,[some ⟨.arr,1,r.map nInt⟩]))(a1:List Int)(a0:l6T)(s:List Int)(o:Ctl (List Int) (List Int))(h:m112_8b rc a1 a0 s=some o):evCL T 0 k112_8b (E112_8 a1 a0 s).1 (E112_8 a1 a0 s).2=some (ctlX (E112_8 a1 a0) (X112_8 a1 a0) o):=by
 unfold m112_8b at h
 revert h
 generalize s=s238;intro h;obtain ⟨g239,h⟩:=ck_some h;obtain ⟨v322,w321,h⟩:=bcall (e112_12 rc hrc a1 (↑s238.length:Int) (↑s238.length:Int) a0 s238 (0,s238)) h;(try simp -implicitDefEqProofs only [go_sem] at g239);simp only [E112_12,X112_12] at w321;try simp -implicitDefEqProofs only [go_sem] at w321
 rcases brx h with ⟨b323,h⟩|⟨b323,h⟩
 · cases h;simp -implicitDefEqProofs only [go_sem,E112_8,X112_8,k112_8b,g239,w321,b323]
 · cases h;simp -implicitDefEqProofs only [go_sem,E112_8,X112_8,k112_8b,g239,w321,b323]
theorem e112_8 (rc:l6T→(List Int)→Int→Option (List Int))(hrc:∀(a0:l6T) (a1:List Int) (a2:Int) (r:List Int),rc a0 a1 a2=some r→evFL T 112 [.agg [nI a0.kind_,nI a0.n_,.ts .imm 3 (a0.kids_.map (nl6T .imm))],.ts .imm 1 (a1.map nInt),nI a2] []=some (.sl 0 0 r.length,[some ⟨.arr,1,r.map nInt⟩]))(a1:List Int)(a0:l6T)(s:List Int)(o:List Int)(h:loopP (m112_8b rc a1 a0) s=some o):evCL T 0 (.loop k112_8b) (E112_8 a1 a0 s).1 (E112_8 a1 a0 s).2=some (X112_8 a1 a0 o) :=
 loop_walk (E:=E112_8 a1 a0) (X:=X112_8 a1 a0) (by intro b;(simp only [X112_8];nofun)) (b112_8 rc hrc a1 a0) s o h
noncomputable def X112_2 (a1:List Int)(a2:Int)(a0:l6T)(v6:Bool)(o:(Unit ⊕ List Int)):Ex×Fr×St :=
 match o with
 | .inl o=>(.normal,frOf 145 (anyF),[])
 | .inr o=>(.ret,frOf 145 (upd anyF 6 (.sl 0 0 o.length)),[some ⟨.arr,1,o.map nInt⟩])
theorem e112_2 (rc:l6T→(List Int)→Int→Option (List Int))(hrc:∀(a0:l6T) (a1:List Int) (a2:Int) (r:List Int),rc a0 a1 a2=some r→evFL T 112 [.agg [nI a0.kind_,nI a0.n_,.ts .imm 3 (a0.kids_.map (nl6T .imm))],.ts .imm 1 (a1.map nInt),nI a2] []=some (.sl 0 0 r.length,[some ⟨.arr,1,r.map nInt⟩]))(a1:List Int)(a2:Int)(a0:l6T)(v6:Bool)(o:(Unit ⊕ List Int))(h:m112_2 rc a1 a2 a0 v6=some o):evCL T 0 k112_2 (frOf 145 (upd (upd (upd (upd (upd anyF 1 (.ts .imm 1 (a1.map nInt))) 2 (nI a2)) 3 (.ptr 0 0 0)) 22 (nI a0.kind_)) 27 (.bool v6))) [some ⟨.box,3,[[nI a0.kind_,nI a0.n_,.ts .imm 3 (a0.kids_.map (nl6T .imm))]]⟩]=some (X112_2 a1 a2 a0 v6 o):=by
 unfold m112_2 at h
 rcases brx h with ⟨b7,h⟩|⟨b7,h⟩
 · try simp -implicitDefEqProofs only [go_sem,X112_2,k112_2,b7]
   rcases brx h with ⟨b19,h⟩|⟨b19,h⟩
   · try simp -implicitDefEqProofs only [go_sem,X112_2,k112_2,b7,b19]
     rcases brx h with ⟨b60,h⟩|⟨b60,h⟩
     · try simp -implicitDefEqProofs only [go_sem,X112_2,k112_2,b7,b19,b60]
       rcases brx h with ⟨b151,h⟩|⟨b151,h⟩
       · cases h;simp -implicitDefEqProofs only [go_sem,X112_2,k112_2,b7,b19,b60,b151]
       · obtain ⟨v326,w325,h⟩:=bcall (e112_8 rc hrc a1 a0 [a2]) h;simp only [E112_8,X112_8] at w325;(try simp -implicitDefEqProofs only [go_sem] at w325);cases h;simp -implicitDefEqProofs only [go_sem,X112_2,k112_2,b7,b19,b60,b151,w325]
     · obtain ⟨x61,g63,g64,g65,h⟩:=bidx (nl6T .imm) h;obtain ⟨r68,w67,h⟩:=bcall (hrc x61 a1 a2) h;obtain ⟨v150,w149,h⟩:=bcall (e112_5 rc hrc a1 (↑r68.length:Int) a0 r68 (0,[])) h;(try simp -implicitDefEqProofs only [go_sem] at g64 g65 w67);simp only [E112_5,X112_5] at w149;(try simp -implicitDefEqProofs only [go_sem] at w149);cases h;simp -implicitDefEqProofs only [go_sem,X112_2,k112_2,b7,b19,b60,g63,g64,g65,w67,w149]
   · obtain ⟨x20,g22,g23,g24,h⟩:=bidx (nl6T .imm) h;obtain ⟨r27,w26,h⟩:=bcall (hrc x20 a1 a2) h;obtain ⟨x28,g30,g31,g32,h⟩:=bidx (nl6T .imm) h;obtain ⟨r35,w34,h⟩:=bcall (hrc x28 a1 a2) h;obtain ⟨v59,w58,h⟩:=bcall (e112_4 rc hrc (↑r35.length:Int) r35 (0,r27)) h;(try simp -implicitDefEqProofs only [go_sem] at g23 g24 w26 g31 g32 w34);simp only [E112_4,X112_4] at w58;(try simp -implicitDefEqProofs only [go_sem] at w58);cases h;simp -implicitDefEqProofs only [go_sem,X112_2,k112_2,b7,b19,g22,g23,g24,w26,g30,g31,g32,w34,w58]
 · obtain ⟨v17,w16,h⟩:=bcall (e112_3 rc hrc a1 a2 a0) h;simp only [X112_3] at w16;try simp -implicitDefEqProofs only [go_sem] at w16
   rcases brx h with ⟨b18,h⟩|⟨b18,h⟩
   · cases h;simp -implicitDefEqProofs only [go_sem,X112_2,k112_2,b7,w16,b18]
   · cases h;simp -implicitDefEqProofs only [go_sem,X112_2,k112_2,b7,w16,b18]
theorem e112r (rc:l6T→(List Int)→Int→Option (List Int))(hrc:∀(a0:l6T) (a1:List Int) (a2:Int) (r:List Int),rc a0 a1 a2=some r→evFL T 112 [.agg [nI a0.kind_,nI a0.n_,.ts .imm 3 (a0.kids_.map (nl6T .imm))],.ts .imm 1 (a1.map nInt),nI a2] []=some (.sl 0 0 r.length,[some ⟨.arr,1,r.map nInt⟩]))(a0:l6T)(a1:List Int)(a2:Int)(r:List Int)(h:m112r rc a0 a1 a2=some r):evFL T 112 [.agg [nI a0.kind_,nI a0.n_,.ts .imm 3 (a0.kids_.map (nl6T .imm))],.ts .imm 1 (a1.map nInt),nI a2] []=some (.sl 0 0 r.length,[some ⟨.arr,1,r.map nInt⟩]):=by
 unfold m112r at h;rw [evFL_at fn112 (Nat.le_of_ble_eq_true rfl) rfl (.inr rfl) ⟨rfl,rfl⟩]
 rcases brx h with ⟨b1,h⟩|⟨b1,h⟩
 · obtain ⟨v6,w5,h⟩:=bcall (e112_1 rc hrc a1 a2 a0 (eqI a0.kind_ 3)) h;simp only [X112_1] at w5;(try simp -implicitDefEqProofs only [go_sem] at w5);(try simp -implicitDefEqProofs only [go_sem,i112,c112,b1,w5]);obtain ⟨o,q327,h⟩:=bnd_some h
   rcases o with ⟨⟩|v329
   · replace h:=selS_l h;have w328:=e112_2 rc hrc a1 a2 a0 v6 (.inl ()) q327;simp only [X112_2] at w328;(try simp -implicitDefEqProofs only [go_sem] at w328);cases h;simp -implicitDefEqProofs only [go_sem,i112,c112,b1,w5,w328]
   · replace h:=selS_r h;have w328:=e112_2 rc hrc a1 a2 a0 v6 (.inr v329) q327;simp only [X112_2] at w328;(try simp -implicitDefEqProofs only [go_sem] at w328);cases h;simp -implicitDefEqProofs only [go_sem,i112,c112,b1,w5,w328]
 · cases h;simp -implicitDefEqProofs only [go_sem,i112,c112,b1]
theorem e112k:∀(k:Nat) (a0:l6T) (a1:List Int) (a2:Int) (r:List Int) (h:m112k k a0 a1 a2=some r),evFL T 112 [.agg [nI a0.kind_,nI a0.n_,.ts .imm 3 (a0.kids_.map (nl6T .imm))],.ts .imm 1 (a1.map nInt),nI a2] []=some (.sl 0 0 r.length,[some ⟨.arr,1,r.map nInt⟩]):=by
 intro k
 induction k with
 | zero=>intro a0 a1 a2 r h;cases h
 | succ k ih=>intro a0 a1 a2 r h;exact e112r (m112k k) (fun a0 a1 a2 r h=>ih a0 a1 a2 r h) a0 a1 a2 r h
theorem e112 (a0:l6T)(a1:List Int)(a2:Int)(r:List Int)(h:m112 a0 a1 a2=some r):evFL T 112 [.agg [nI a0.kind_,nI a0.n_,.ts .imm 3 (a0.kids_.map (nl6T .imm))],.ts .imm 1 (a1.map nInt),nI a2] []=some (.sl 0 0 r.length,[some ⟨.arr,1,r.map nInt⟩]):=by
 obtain ⟨N,hN⟩:=limO_iff.1 h;exact e112k N a0 a1 a2 r (hN N (Nat.le_refl N))
@[go_sem] theorem call79:CL 79 [[1],[0]]:=evCall0 fn79 rfl rfl rfl
noncomputable def X79_1 (a1:Int)(a0:List Int)(p1:Int)(o:(Unit ⊕ Unit)):Ex×Fr×St :=
 match o with
 | .inl o=>(.exit 0,frOf 17 (anyF),[])
 | .inr o=>(.ret,frOf 17 (upd anyF 4 (.bool true)),[])
noncomputable def E79_1 (a1:Int)(a0:List Int)(p1:Int)(s:Int):Fr×St:=(frOf 17 (upd (upd (upd (upd anyF 1 (nI a1)) 7 (.ts .imm 1 (a0.map nInt))) 8 (nI p1)) 9 (nI s)),[])
theorem b79_1 (a1:Int)(a0:List Int)(p1:Int)(s:Int)(o:Ctl Int (Unit ⊕ Unit))(h:m79_1b a1 a0 p1 s=some o):evCL T 0 k79_1b (E79_1 a1 a0 p1 s).1 (E79_1 a1 a0 p1 s).2=some (ctlX (E79_1 a1 a0 p1) (X79_1 a1 a0 p1) o):=by
 unfold m79_1b at h
 revert h
 generalize s=s9;intro h
 rcases brx h with ⟨b10,h⟩|⟨b10,h⟩
 · cases h;simp -implicitDefEqProofs only [go_sem,E79_1,X79_1,k79_1b,b10]
 · obtain ⟨x11,g13,g14,g15,h⟩:=bidx nInt h;try simp -implicitDefEqProofs only [go_sem] at g14 g15
   rcases brx h with ⟨b16,h⟩|⟨b16,h⟩
   · cases h;simp -implicitDefEqProofs only [go_sem,E79_1,X79_1,k79_1b,b10,g13,g14,g15,b16]
   · cases h;simp -implicitDefEqProofs only [go_sem,E79_1,X79_1,k79_1b,b10,g13,g14,g15,b16]
theorem e79_1 (a1:Int)(a0:List Int)(p1:Int)(s:Int)(o:(Unit ⊕ Unit))(h:loopP (m79_1b a1 a0 p1) s=some o):evCL T 0 (.loop k79_1b) (E79_1 a1 a0 p1 s).1 (E79_1 a1 a0 p1 s).2=some (X79_1 a1 a0 p1 o) :=
 loop_walk (E:=E79_1 a1 a0 p1) (X:=X79_1 a1 a0 p1) (by intro b;rcases b with b | b<;>(simp only [X79_1];nofun)) (b79_1 a1 a0 p1) s o h
theorem e79 (a0:List Int)(a1:Int)(r:Bool)(h:m79 a0 a1=some r):evFL T 79 [.ts .imm 1 (a0.map nInt),nI a1] []=some (.bool r,[]):=by
 unfold m79 at h;rw [evFL_at fn79 (Nat.le_of_ble_eq_true rfl) rfl (.inr rfl) ⟨rfl,rfl⟩];(try simp -implicitDefEqProofs only [go_sem,i79,c79]);obtain ⟨o,q17,h⟩:=bnd_some h
 rcases o with ⟨⟩|⟨⟩
 · replace h:=selS_l h;have w18:=e79_1 a1 a0 (↑a0.length:Int) 0 (.inl ()) q17;simp only [E79_1,X79_1] at w18;(try simp -implicitDefEqProofs only [go_sem] at w18);cases h;simp -implicitDefEqProofs only [go_sem,i79,c79,w18]
 · replace h:=selS_r h;have w18:=e79_1 a1 a0 (↑a0.length:Int) 0 (.inr ()) q17;simp only [E79_1,X79_1] at w18;(try simp -implicitDefEqProofs only [go_sem] at w18);cases h;simp -implicitDefEqProofs only [go_sem,i79,c79,w18]
@[go_sem] theorem call78:CL 78 [[2],[1]]:=evCall0 fn78 rfl rfl rfl
noncomputable def X78_1 (a1:List Int)(r4:Bool)(r3:l6T)(o:Bool):Ex×Fr×St :=
 (.normal,frOf 26 (upd (upd (upd anyF 1 (.ts .imm 1 (a1.map nInt))) 6 (.ptr 0 0 0)) 19 (.bool o)),[some ⟨.box,3,[[nI r3.kind_,nI r3.n_,.sl 1 0 r3.kids_.length]]⟩,some ⟨.arr,3,r3.kids_.map (nl6T .own)⟩])
theorem e78_1 (a1:List Int)(r4:Bool)(r3:l6T)(o:Bool)(h:m78_1 a1 r4=some o):evCL T 0 k78_1 (frOf 26 (upd (upd (upd anyF 1 (.ts .imm 1 (a1.map nInt))) 6 (.ptr 0 0 0)) 7 (.bool r4))) [some ⟨.box,3,[[nI r3.kind_,nI r3.n_,.sl 1 0 r3.kids_.length]]⟩,some ⟨.arr,3,r3.kids_.map (nl6T .own)⟩]=some (X78_1 a1 r4 r3 o):=by
 unfold m78_1 at h
 rcases brx h with ⟨b5,h⟩|⟨b5,h⟩
 · cases h;simp -implicitDefEqProofs only [go_sem,X78_1,k78_1,b5]
 · obtain ⟨r8,w7,h⟩:=bcall (e111 a1) h;(try simp -implicitDefEqProofs only [go_sem] at w7);cases h;simp -implicitDefEqProofs only [go_sem,X78_1,k78_1,b5,w7]
theorem e78 (a0:List ReCell)(a1:List Int)(r:(Bool×Bool))(h:m78 a0 a1=some r):evFL T 78 [.ts .imm 2 (a0.map nReC),.ts .imm 1 (a1.map nInt)] []=some (.tup [.bool r.1,.bool r.2],[]):=by
 unfold m78 at h;rw [evFL_at fn78 (Nat.le_of_ble_eq_true rfl) rfl (.inr rfl) ⟨rfl,rfl⟩];obtain ⟨⟨r3,r4⟩,w2,h⟩:=bcall (e109 a0) h;replace h:=sel2_some h;obtain ⟨v11,w10,h⟩:=bcall (e78_1 a1 r4 r3) h;(try simp -implicitDefEqProofs only [go_sem] at w2);simp only [X78_1] at w10;try simp -implicitDefEqProofs only [go_sem] at w10
 rcases brx h with ⟨b12,h⟩|⟨b12,h⟩
 · obtain ⟨r15,w14,h⟩:=bcall (e112 r3 a1 0) h;obtain ⟨r18,w17,h⟩:=bcall (e79 r15 (↑a1.length:Int)) h;(try simp -implicitDefEqProofs only [go_sem] at w14 w17);cases h;simp -implicitDefEqProofs only [go_sem,i78,c78,w2,w10,b12,w14,w17]
 · cases h;simp -implicitDefEqProofs only [go_sem,i78,c78,w2,w10,b12]
@[go_sem] theorem call50:CL 50 [[4,2,0,2,0],[0,0,0,1,0,0,0,1]]:=evCall0 fn50 rfl rfl rfl
noncomputable def X50_4 (s20:Bool)(a0:Term)(p3:Int)(s21:Int)(a1:Route)(x23:Range)(o:Bool):Ex×Fr×St :=
 (.normal,frOf 68 (upd (upd (upd (upd (upd (upd anyF 2 (.ptr 0 0 0)) 3 (.ptr 1 0 0)) 5 (.bool o)) 15 (.ts .imm 4 (a0.ranges.map nRan))) 16 (nI p3)) 17 (nI s21)),[some ⟨.box,5,[(nTer .imm a0)]⟩,some ⟨.box,8,[(nRou .imm a1)]⟩])
theorem e50_4 (s20:Bool)(a0:Term)(p3:Int)(s21:Int)(a1:Route)(x23:Range)(o:Bool)(h:m50_4 s20 a1 x23=some o):evCL T 0 k50_4 (frOf 68 (upd (upd (upd (upd (upd (upd (upd anyF 2 (.ptr 0 0 0)) 3 (.ptr 1 0 0)) 5 (.bool s20)) 7 (.ptr 2 0 0)) 15 (.ts .imm 4 (a0.ranges.map nRan))) 16 (nI p3)) 17 (nI s21))) [some ⟨.box,5,[(nTer .imm a0)]⟩,some ⟨.box,8,[(nRou .imm a1)]⟩,some ⟨.box,4,[(nRan x23)]⟩]=some (X50_4 s20 a0 p3 s21 a1 x23 o):=by
 unfold m50_4 at h
 rcases brx h with ⟨b28,h⟩|⟨b28,h⟩
 · obtain ⟨r31,w30,h⟩:=bcall (e77 x23.prefix_ a1.prefix_) h;try simp -implicitDefEqProofs only [go_sem] at w30
   rcases brx h with ⟨b32,h⟩|⟨b32,h⟩
   · cases h;simp -implicitDefEqProofs only [go_sem,X50_4,k50_4,b28,w30,b32]
   · obtain ⟨r35,w34,h⟩:=bcall (e72 a1.prefix_.len x23.lo x23.hi) h;(try simp -implicitDefEqProofs only [go_sem] at w34);cases h;simp -implicitDefEqProofs only [go_sem,X50_4,k50_4,b28,w30,b32,w34]
 · cases h;simp -implicitDefEqProofs only [go_sem,X50_4,k50_4,b28]
noncomputable def X50_2 (a0:Term)(p3:Int)(a1:Route)(o:Bool):Ex×Fr×St :=
 (.exit 0,frOf 68 (upd (upd (upd anyF 2 (.ptr 0 0 0)) 3 (.ptr 1 0 0)) 5 (.bool o)),[some ⟨.box,5,[(nTer .imm a0)]⟩,some ⟨.box,8,[(nRou .imm a1)]⟩])
noncomputable def E50_2 (a0:Term)(p3:Int)(a1:Route)(s:(Bool×Int)):Fr×St:=(frOf 68 (upd (upd (upd (upd (upd (upd anyF 2 (.ptr 0 0 0)) 3 (.ptr 1 0 0)) 5 (.bool s.1)) 15 (.ts .imm 4 (a0.ranges.map nRan))) 16 (nI p3)) 17 (nI s.2)),[some ⟨.box,5,[(nTer .imm a0)]⟩,some ⟨.box,8,[(nRou .imm a1)]⟩])
theorem b50_2 (a0:Term)(p3:Int)(a1:Route)(s:(Bool×Int))(o:Ctl (Bool×Int) Bool)(h:m50_2b a0 p3 a1 s=some o):evCL T 0 k50_2b (E50_2 a0 p3 a1 s).1 (E50_2 a0 p3 a1 s).2=some (ctlX (E50_2 a0 p3 a1) (X50_2 a0 p3 a1) o):=by
 unfold m50_2b at h;obtain ⟨s20,s21⟩:=s;replace h:=sel2_some h
 rcases brx h with ⟨b22,h⟩|⟨b22,h⟩
 · cases h;simp -implicitDefEqProofs only [go_sem,E50_2,X50_2,k50_2b,b22]
 · obtain ⟨x23,g25,g26,g27,h⟩:=bidx nRan h;obtain ⟨v38,w37,h⟩:=bcall (e50_4 s20 a0 p3 s21 a1 x23) h;(try simp -implicitDefEqProofs only [go_sem] at g26 g27);simp only [X50_4] at w37;(try simp -implicitDefEqProofs only [go_sem] at w37);cases h;simp -implicitDefEqProofs only [go_sem,E50_2,X50_2,k50_2b,b22,g25,g26,g27,w37]
theorem e50_2 (a0:Term)(p3:Int)(a1:Route)(s:(Bool×Int))(o:Bool)(h:loopP (m50_2b a0 p3 a1) s=some o):evCL T 0 (.loop k50_2b) (E50_2 a0 p3 a1 s).1 (E50_2 a0 p3 a1 s).2=some (X50_2 a0 p3 a1 o) :=
 loop_walk (E:=E50_2 a0 p3 a1) (X:=X50_2 a0 p3 a1) (by intro b;(simp only [X50_2];nofun)) (b50_2 a0 p3 a1) s o h
noncomputable def X50_1 (p1:Bool)(a0:Term)(a1:Route)(o:(Unit ⊕ Unit)):Ex×Fr×St :=
 match o with
 | .inl o=>(.normal,frOf 68 (upd (upd anyF 2 (.ptr 0 0 0)) 3 (.ptr 1 0 0)),[some ⟨.box,5,[(nTer .imm a0)]⟩,some ⟨.box,8,[(nRou .imm a1)]⟩])
 | .inr o=>(.ret,frOf 68 (upd anyF 4 (.bool false)),[])
theorem e50_1 (p1:Bool)(a0:Term)(a1:Route)(o:(Unit ⊕ Unit))(h:m50_1 p1 a0 a1=some o):evCL T 0 k50_1 (frOf 68 (upd (upd (upd anyF 2 (.ptr 0 0 0)) 3 (.ptr 1 0 0)) 13 (.bool p1))) [some ⟨.box,5,[(nTer .imm a0)]⟩,some ⟨.box,8,[(nRou .imm a1)]⟩]=some (X50_1 p1 a0 a1 o):=by
 unfold m50_1 at h
 rcases brx h with ⟨b2,h⟩|⟨b2,h⟩
 · cases h;simp -implicitDefEqProofs only [go_sem,X50_1,k50_1,b2]
 · obtain ⟨v41,w40,h⟩:=bcall (e50_2 a0 (↑a0.ranges.length:Int) a1 (false,0)) h;simp only [E50_2,X50_2] at w40;try simp -implicitDefEqProofs only [go_sem] at w40
   rcases brx h with ⟨b42,h⟩|⟨b42,h⟩
   · cases h;simp -implicitDefEqProofs only [go_sem,X50_1,k50_1,b2,w40,b42]
   · cases h;simp -implicitDefEqProofs only [go_sem,X50_1,k50_1,b2,w40,b42]
noncomputable def X50_5 (p45:Bool)(a0:Term)(a1:Route)(o:(Unit ⊕ Unit)):Ex×Fr×St :=
 match o with
 | .inl o=>(.normal,frOf 68 (upd (upd anyF 2 (.ptr 0 0 0)) 3 (.ptr 1 0 0)),[some ⟨.box,5,[(nTer .imm a0)]⟩,some ⟨.box,8,[(nRou .imm a1)]⟩])
 | .inr o=>(.ret,frOf 68 (upd anyF 4 (.bool false)),[])
theorem e50_5 (p45:Bool)(a0:Term)(a1:Route)(o:(Unit ⊕ Unit))(h:m50_5 p45 a0 a1=some o):evCL T 0 k50_5 (frOf 68 (upd (upd (upd anyF 2 (.ptr 0 0 0)) 3 (.ptr 1 0 0)) 45 (.bool p45))) [some ⟨.box,5,[(nTer .imm a0)]⟩,some ⟨.box,8,[(nRou .imm a1)]⟩]=some (X50_5 p45 a0 a1 o):=by
 unfold m50_5 at h
 rcases brx h with ⟨b46,h⟩|⟨b46,h⟩
 · cases h;simp -implicitDefEqProofs only [go_sem,X50_5,k50_5,b46]
 · obtain ⟨⟨r49,r50⟩,w48,h⟩:=bcall (e78 a0.path a1.attrs.path) h;replace h:=sel2_some h;try simp -implicitDefEqProofs only [go_sem] at w48
   rcases brx h with ⟨b51,h⟩|⟨b51,h⟩
   · cases h;simp -implicitDefEqProofs only [go_sem,X50_5,k50_5,b46,w48,b51]
   · cases h;simp -implicitDefEqProofs only [go_sem,X50_5,k50_5,b46,w48,b51]
noncomputable def X50_6 (a0:Term)(a1:Route)(o:Bool):Ex×Fr×St :=
 (.normal,frOf 68 (upd anyF 4 (.bool o)),[])
theorem e50_6 (a0:Term)(a1:Route)(o:Bool)(h:m50_6 a0 a1=some o):evCL T 0 k50_6 (frOf 68 (upd (upd anyF 2 (.ptr 0 0 0)) 3 (.ptr 1 0 0))) [some ⟨.box,5,[(nTer .imm a0)]⟩,some ⟨.box,8,[(nRou .imm a1)]⟩]=some (X50_6 a0 a1 o):=by
 unfold m50_6 at h
 rcases brx h with ⟨b54,h⟩|⟨b54,h⟩
 · obtain ⟨r57,w56,h⟩:=bcall (e79 a1.attrs.comms a0.comm) h;(try simp -implicitDefEqProofs only [go_sem] at w56);cases h;simp -implicitDefEqProofs only [go_sem,X50_6,k50_6,b54,w56]
 · cases h;simp -implicitDefEqProofs only [go_sem,X50_6,k50_6,b54]
theorem e50 (a0:Term)(a1:Route)(r:Bool)(h:m50 a0 a1=some r):evFL T 50 [.agg (nTer .imm a0),.agg (nRou .imm a1)] []=some (.bool r,[]):=by
 unfold m50 at h;rw [evFL_at fn50 (Nat.le_of_ble_eq_true rfl) rfl (.inr rfl) ⟨rfl,rfl⟩];(try simp -implicitDefEqProofs only [go_sem,i50,c50]);obtain ⟨o,q43,h⟩:=bnd_some h
 rcases o with ⟨⟩|⟨⟩
 · replace h:=selS_l h;have w44:=e50_1 (ltI 0 (↑a0.ranges.length:Int)) a0 a1 (.inl ()) q43;simp only [X50_1] at w44;(try simp -implicitDefEqProofs only [go_sem] at w44);(try simp -implicitDefEqProofs only [go_sem,i50,c50,w44]);obtain ⟨o,q52,h⟩:=bnd_some h
   rcases o with ⟨⟩|⟨⟩
   · replace h:=selS_l h;have w53:=e50_5 (ltI 0 (↑a0.path.length:Int)) a0 a1 (.inl ()) q52;simp only [X50_5] at w53;obtain ⟨v60,w59,h⟩:=bcall (e50_6 a0 a1) h;(try simp -implicitDefEqProofs only [go_sem] at w53);simp only [X50_6] at w59;(try simp -implicitDefEqProofs only [go_sem] at w59);cases h;simp -implicitDefEqProofs only [go_sem,i50,c50,w44,w53,w59]
   · replace h:=selS_r h;have w53:=e50_5 (ltI 0 (↑a0.path.length:Int)) a0 a1 (.inr ()) q52;simp only [X50_5] at w53;(try simp -implicitDefEqProofs only [go_sem] at w53);cases h;simp -implicitDefEqProofs only [go_sem,i50,c50,w44,w53]
 · replace h:=selS_r h;have w44:=e50_1 (ltI 0 (↑a0.ranges.length:Int)) a0 a1 (.inr ()) q43;simp only [X50_1] at w44;(try simp -implicitDefEqProofs only [go_sem] at w44);cases h;simp -implicitDefEqProofs only [go_sem,i50,c50,w44]
@[go_sem] theorem call51:CL 51 [[0,0],[0,0,0,1,0,0,0,1]]:=evCall0 fn51 rfl rfl rfl
noncomputable def X51_7 (x31:Int)(a1:Route)(p16:Int)(s28:Int)(p36:Bool)(a0:Acn)(p5:Prefix)(r3:Attrs)(s29:List Int)(o:List Int):Ex×Fr×St :=
 (.normal,frOf 73 (upd (upd (upd (upd (upd (upd (upd anyF 2 (.ptr 0 0 0)) 4 (.ptr 1 0 0)) 5 (.ptr 4 0 0)) 6 (.sl 7 0 o.length)) 43 (.ts .imm 1 (a1.attrs.comms.map nInt))) 44 (nI p16)) 45 (nI s28)),[some ⟨.box,2,[[nI a0.kind,nI a0.n]]⟩,some ⟨.box,8,[[nI p5.addr,nI p5.len,nI 0,.sl 2 0 0,nI 0,nI 0,nI 0,.sl 3 0 0]]⟩,some ⟨.arr,1,[]⟩,some ⟨.arr,1,[]⟩,some ⟨.box,8,[[nI a1.prefix_.addr,nI a1.prefix_.len,nI r3.origin,.sl 5 0 r3.path.length,nI r3.next,nI r3.med,nI r3.pref,.sl 6 0 r3.comms.length]]⟩,some ⟨.arr,1,r3.path.map nInt⟩,some ⟨.arr,1,r3.comms.map nInt⟩,some ⟨.arr,1,o.map nInt⟩])
theorem e51_7 (x31:Int)(a1:Route)(p16:Int)(s28:Int)(p36:Bool)(a0:Acn)(p5:Prefix)(r3:Attrs)(s29:List Int)(o:List Int)(h:m51_7 x31 p36 s29=some o):evCL T 0 k51_7 (frOf 73 (upd (upd (upd (upd (upd (upd (upd (upd (upd anyF 2 (.ptr 0 0 0)) 4 (.ptr 1 0 0)) 5 (.ptr 4 0 0)) 6 (.sl 7 0 s29.length)) 8 (nI x31)) 43 (.ts .imm 1 (a1.attrs.comms.map nInt))) 44 (nI p16)) 45 (nI s28)) 52 (.bool p36))) [some ⟨.box,2,[[nI a0.kind,nI a0.n]]⟩,some ⟨.box,8,[[nI p5.addr,nI p5.len,nI 0,.sl 2 0 0,nI 0,nI 0,nI 0,.sl 3 0 0]]⟩,some ⟨.arr,1,[]⟩,some ⟨.arr,1,[]⟩,some ⟨.box,8,[[nI a1.prefix_.addr,nI a1.prefix_.len,nI r3.origin,.sl 5 0 r3.path.length,nI r3.next,nI r3.med,nI r3.pref,.sl 6 0 r3.comms.length]]⟩,some ⟨.arr,1,r3.path.map nInt⟩,some ⟨.arr,1,r3.comms.map nInt⟩,some ⟨.arr,1,s29.map nInt⟩]=some (X51_7 x31 a1 p16 s28 p36 a0 p5 r3 s29 o):=by
 unfold m51_7 at h
 rcases brx h with ⟨b37,h⟩|⟨b37,h⟩
 · cases h;simp -implicitDefEqProofs only [go_sem,X51_7,k51_7,b37]
 · obtain ⟨g38,h⟩:=ck_some h;(try simp -implicitDefEqProofs only [go_sem] at g38);cases h;simp -implicitDefEqProofs only [go_sem,X51_7,k51_7,b37,g38]
noncomputable def X51_5 (a1:Route)(p16:Int)(a0:Acn)(p5:Prefix)(r3:Attrs)(o:List Int):Ex×Fr×St :=
 (.exit 1,frOf 73 (upd (upd (upd anyF 4 (.ptr 0 0 0)) 5 (.ptr 3 0 0)) 6 (.sl 6 0 o.length)),[some ⟨.box,8,[[nI p5.addr,nI p5.len,nI 0,.sl 1 0 0,nI 0,nI 0,nI 0,.sl 2 0 0]]⟩,some ⟨.arr,1,[]⟩,some ⟨.arr,1,[]⟩,some ⟨.box,8,[[nI a1.prefix_.addr,nI a1.prefix_.len,nI r3.origin,.sl 4 0 r3.path.length,nI r3.next,nI r3.med,nI r3.pref,.sl 5 0 r3.comms.length]]⟩,some ⟨.arr,1,r3.path.map nInt⟩,some ⟨.arr,1,r3.comms.map nInt⟩,some ⟨.arr,1,o.map nInt⟩])
noncomputable def E51_5 (a1:Route)(p16:Int)(a0:Acn)(p5:Prefix)(r3:Attrs)(s:(Int×List Int)):Fr×St:=(frOf 73 (upd (upd (upd (upd (upd (upd (upd anyF 2 (.ptr 0 0 0)) 4 (.ptr 1 0 0)) 5 (.ptr 4 0 0)) 6 (.sl 7 0 s.2.length)) 43 (.ts .imm 1 (a1.attrs.comms.map nInt))) 44 (nI p16)) 45 (nI s.1)),[some ⟨.box,2,[[nI a0.kind,nI a0.n]]⟩,some ⟨.box,8,[[nI p5.addr,nI p5.len,nI 0,.sl 2 0 0,nI 0,nI 0,nI 0,.sl 3 0 0]]⟩,some ⟨.arr,1,[]⟩,some ⟨.arr,1,[]⟩,some ⟨.box,8,[[nI a1.prefix_.addr,nI a1.prefix_.len,nI r3.origin,.sl 5 0 r3.path.length,nI r3.next,nI r3.med,nI r3.pref,.sl 6 0 r3.comms.length]]⟩,some ⟨.arr,1,r3.path.map nInt⟩,some ⟨.arr,1,r3.comms.map nInt⟩,some ⟨.arr,1,s.2.map nInt⟩])
theorem b51_5 (a1:Route)(p16:Int)(a0:Acn)(p5:Prefix)(r3:Attrs)(s:(Int×List Int))(o:Ctl (Int×List Int) (List Int))(h:m51_5b a1 p16 a0 s=some o):evCL T 0 k51_5b (E51_5 a1 p16 a0 p5 r3 s).1 (E51_5 a1 p16 a0 p5 r3 s).2=some (ctlX (E51_5 a1 p16 a0 p5 r3) (X51_5 a1 p16 a0 p5 r3) o):=by
 unfold m51_5b at h;obtain ⟨s28,s29⟩:=s;replace h:=sel2_some h
 rcases brx h with ⟨b30,h⟩|⟨b30,h⟩
 · cases h;simp -implicitDefEqProofs only [go_sem,E51_5,X51_5,k51_5b,b30]
 · obtain ⟨x31,g33,g34,g35,h⟩:=bidx nInt h;obtain ⟨v41,w40,h⟩:=bcall (e51_7 x31 a1 p16 s28 (!(eqI x31 a0.n)) a0 p5 r3 s29) h;(try simp -implicitDefEqProofs only [go_sem] at g34 g35);simp only [X51_7] at w40;(try simp -implicitDefEqProofs only [go_sem] at w40);cases h;simp -implicitDefEqProofs only [go_sem,E51_5,X51_5,k51_5b,b30,g33,g34,g35,w40]
theorem e51_5 (a1:Route)(p16:Int)(a0:Acn)(p5:Prefix)(r3:Attrs)(s:(Int×List Int))(o:List Int)(h:loopP (m51_5b a1 p16 a0) s=some o):evCL T 0 (.loop k51_5b) (E51_5 a1 p16 a0 p5 r3 s).1 (E51_5 a1 p16 a0 p5 r3 s).2=some (X51_5 a1 p16 a0 p5 r3 o) :=
 loop_walk (E:=E51_5 a1 p16 a0 p5 r3) (X:=X51_5 a1 p16 a0 p5 r3) (by intro b;(simp only [X51_5];nofun)) (b51_5 a1 p16 a0 p5 r3) s o h
noncomputable def X51_8 (p45:Bool)(a0:Acn)(a1:Route)(p5:Prefix)(r3:Attrs)(o:List Int):Ex×Fr×St :=
 (.normal,frOf 73 (upd (upd anyF 4 (.ptr 0 0 0)) 5 (.ptr 3 0 0)),[some ⟨.box,8,[[nI p5.addr,nI p5.len,nI 0,.sl 1 0 0,nI 0,nI 0,nI 0,.sl 2 0 0]]⟩,some ⟨.arr,1,[]⟩,some ⟨.arr,1,[]⟩,some ⟨.box,8,[[nI a1.prefix_.addr,nI a1.prefix_.len,nI r3.origin,.sl 4 0 o.length,nI r3.next,nI r3.med,nI r3.pref,.sl 5 0 r3.comms.length]]⟩,some ⟨.arr,1,o.map nInt⟩,some ⟨.arr,1,r3.comms.map nInt⟩])
theorem e51_8 (p45:Bool)(a0:Acn)(a1:Route)(p5:Prefix)(r3:Attrs)(o:List Int)(h:m51_8 p45 a0 a1 r3=some o):evCL T 0 k51_8 (frOf 73 (upd (upd (upd (upd (upd anyF 2 (.ptr 0 0 0)) 3 (.ptr 1 0 0)) 4 (.ptr 2 0 0)) 5 (.ptr 5 0 0)) 61 (.bool p45))) [some ⟨.box,2,[[nI a0.kind,nI a0.n]]⟩,some ⟨.box,8,[(nRou .imm a1)]⟩,some ⟨.box,8,[[nI p5.addr,nI p5.len,nI 0,.sl 3 0 0,nI 0,nI 0,nI 0,.sl 4 0 0]]⟩,some ⟨.arr,1,[]⟩,some ⟨.arr,1,[]⟩,some ⟨.box,8,[[nI a1.prefix_.addr,nI a1.prefix_.len,nI r3.origin,.sl 6 0 r3.path.length,nI r3.next,nI r3.med,nI r3.pref,.sl 7 0 r3.comms.length]]⟩,some ⟨.arr,1,r3.path.map nInt⟩,some ⟨.arr,1,r3.comms.map nInt⟩]=some (X51_8 p45 a0 a1 p5 r3 o):=by
 unfold m51_8 at h
 rcases brx h with ⟨b46,h⟩|⟨b46,h⟩
 · cases h;simp -implicitDefEqProofs only [go_sem,X51_8,k51_8,b46]
 · obtain ⟨g47,h⟩:=ck_some h;(try simp -implicitDefEqProofs only [go_sem] at g47);cases h;simp -implicitDefEqProofs only [go_sem,X51_8,k51_8,b46,g47]
noncomputable def X51_4 (a0:Acn)(p14:Bool)(a1:Route)(p5:Prefix)(r3:Attrs)(o:(List Int×List Int)):Ex×Fr×St :=
 (.normal,frOf 73 (upd (upd anyF 4 (.ptr 0 0 0)) 5 (.ptr 3 0 0)),[some ⟨.box,8,[[nI p5.addr,nI p5.len,nI 0,.sl 1 0 0,nI 0,nI 0,nI 0,.sl 2 0 0]]⟩,some ⟨.arr,1,[]⟩,some ⟨.arr,1,[]⟩,some ⟨.box,8,[[nI a1.prefix_.addr,nI a1.prefix_.len,nI r3.origin,.sl 4 0 o.1.length,nI r3.next,nI r3.med,nI r3.pref,.sl 5 0 o.2.length]]⟩,some ⟨.arr,1,o.1.map nInt⟩,some ⟨.arr,1,o.2.map nInt⟩])
theorem e51_4 (a0:Acn)(p14:Bool)(a1:Route)(p5:Prefix)(r3:Attrs)(o:(List Int×List Int))(h:m51_4 a0 p14 a1 r3=some o):evCL T 0 k51_4 (frOf 73 (upd (upd (upd (upd (upd (upd anyF 2 (.ptr 0 0 0)) 3 (.ptr 1 0 0)) 4 (.ptr 2 0 0)) 5 (.ptr 5 0 0)) 16 (nI a0.kind)) 39 (.bool p14))) [some ⟨.box,2,[[nI a0.kind,nI a0.n]]⟩,some ⟨.box,8,[(nRou .imm a1)]⟩,some ⟨.box,8,[[nI p5.addr,nI p5.len,nI 0,.sl 3 0 0,nI 0,nI 0,nI 0,.sl 4 0 0]]⟩,some ⟨.arr,1,[]⟩,some ⟨.arr,1,[]⟩,some ⟨.box,8,[[nI a1.prefix_.addr,nI a1.prefix_.len,nI r3.origin,.sl 6 0 r3.path.length,nI r3.next,nI r3.med,nI r3.pref,.sl 7 0 r3.comms.length]]⟩,some ⟨.arr,1,r3.path.map nInt⟩,some ⟨.arr,1,r3.comms.map nInt⟩]=some (X51_4 a0 p14 a1 p5 r3 o):=by
 unfold m51_4 at h
 rcases brx h with ⟨b15,h⟩|⟨b15,h⟩
 · obtain ⟨v50,w49,h⟩:=bcall (e51_8 (eqI a0.kind 5) a0 a1 p5 r3) h;simp only [X51_8] at w49;(try simp -implicitDefEqProofs only [go_sem] at w49);cases h;simp -implicitDefEqProofs only [go_sem,X51_4,k51_4,b15,w49]
 · obtain ⟨v44,w43,h⟩:=bcall (e51_5 a1 (↑a1.attrs.comms.length:Int) a0 p5 r3 (0,[])) h;simp only [E51_5,X51_5] at w43;(try simp -implicitDefEqProofs only [go_sem] at w43);cases h;simp -implicitDefEqProofs only [go_sem,X51_4,k51_4,b15,w43]
noncomputable def X51_3 (a0:Acn)(p9:Bool)(a1:Route)(p5:Prefix)(r3:Attrs)(o:(List Int×List Int)):Ex×Fr×St :=
 (.normal,frOf 73 (upd (upd anyF 4 (.ptr 0 0 0)) 5 (.ptr 3 0 0)),[some ⟨.box,8,[[nI p5.addr,nI p5.len,nI 0,.sl 1 0 0,nI 0,nI 0,nI 0,.sl 2 0 0]]⟩,some ⟨.arr,1,[]⟩,some ⟨.arr,1,[]⟩,some ⟨.box,8,[[nI a1.prefix_.addr,nI a1.prefix_.len,nI r3.origin,.sl 4 0 o.1.length,nI r3.next,nI r3.med,nI r3.pref,.sl 5 0 o.2.length]]⟩,some ⟨.arr,1,o.1.map nInt⟩,some ⟨.arr,1,o.2.map nInt⟩])
theorem e51_3 (a0:Acn)(p9:Bool)(a1:Route)(p5:Prefix)(r3:Attrs)(o:(List Int×List Int))(h:m51_3 a0 p9 a1 r3=some o):evCL T 0 k51_3 (frOf 73 (upd (upd (upd (upd (upd (upd anyF 2 (.ptr 0 0 0)) 3 (.ptr 1 0 0)) 4 (.ptr 2 0 0)) 5 (.ptr 5 0 0)) 16 (nI a0.kind)) 29 (.bool p9))) [some ⟨.box,2,[[nI a0.kind,nI a0.n]]⟩,some ⟨.box,8,[(nRou .imm a1)]⟩,some ⟨.box,8,[[nI p5.addr,nI p5.len,nI 0,.sl 3 0 0,nI 0,nI 0,nI 0,.sl 4 0 0]]⟩,some ⟨.arr,1,[]⟩,some ⟨.arr,1,[]⟩,some ⟨.box,8,[[nI a1.prefix_.addr,nI a1.prefix_.len,nI r3.origin,.sl 6 0 r3.path.length,nI r3.next,nI r3.med,nI r3.pref,.sl 7 0 r3.comms.length]]⟩,some ⟨.arr,1,r3.path.map nInt⟩,some ⟨.arr,1,r3.comms.map nInt⟩]=some (X51_3 a0 p9 a1 p5 r3 o):=by
 unfold m51_3 at h
 rcases brx h with ⟨b10,h⟩|⟨b10,h⟩
 · obtain ⟨⟨v53,v54⟩,w52,h⟩:=bcall (e51_4 a0 (eqI a0.kind 4) a1 p5 r3) h;replace h:=sel2_some h;simp only [X51_4] at w52;(try simp -implicitDefEqProofs only [go_sem] at w52);cases h;simp -implicitDefEqProofs only [go_sem,X51_3,k51_3,b10,w52]
 · obtain ⟨r13,w12,h⟩:=bcall (e80 r3.comms a0.n) h;(try simp -implicitDefEqProofs only [go_sem] at w12);cases h;simp -implicitDefEqProofs only [go_sem,X51_3,k51_3,b10,w12]
noncomputable def X51_2 (a0:Acn)(p7:Bool)(a1:Route)(p5:Prefix)(r3:Attrs)(o:(Int×List Int×List Int)):Ex×Fr×St :=
 (.normal,frOf 73 (upd (upd anyF 4 (.ptr 0 0 0)) 5 (.ptr 3 0 0)),[some ⟨.box,8,[[nI p5.addr,nI p5.len,nI 0,.sl 1 0 0,nI 0,nI 0,nI 0,.sl 2 0 0]]⟩,some ⟨.arr,1,[]⟩,some ⟨.arr,1,[]⟩,some ⟨.box,8,[[nI a1.prefix_.addr,nI a1.prefix_.len,nI r3.origin,.sl 4 0 o.2.1.length,nI r3.next,nI o.1,nI r3.pref,.sl 5 0 o.2.2.length]]⟩,some ⟨.arr,1,o.2.1.map nInt⟩,some ⟨.arr,1,o.2.2.map nInt⟩])
theorem e51_2 (a0:Acn)(p7:Bool)(a1:Route)(p5:Prefix)(r3:Attrs)(o:(Int×List Int×List Int))(h:m51_2 a0 p7 a1 r3=some o):evCL T 0 k51_2 (frOf 73 (upd (upd (upd (upd (upd (upd anyF 2 (.ptr 0 0 0)) 3 (.ptr 1 0 0)) 4 (.ptr 2 0 0)) 5 (.ptr 5 0 0)) 16 (nI a0.kind)) 23 (.bool p7))) [some ⟨.box,2,[[nI a0.kind,nI a0.n]]⟩,some ⟨.box,8,[(nRou .imm a1)]⟩,some ⟨.box,8,[[nI p5.addr,nI p5.len,nI 0,.sl 3 0 0,nI 0,nI 0,nI 0,.sl 4 0 0]]⟩,some ⟨.arr,1,[]⟩,some ⟨.arr,1,[]⟩,some ⟨.box,8,[[nI a1.prefix_.addr,nI a1.prefix_.len,nI r3.origin,.sl 6 0 r3.path.length,nI r3.next,nI r3.med,nI r3.pref,.sl 7 0 r3.comms.length]]⟩,some ⟨.arr,1,r3.path.map nInt⟩,some ⟨.arr,1,r3.comms.map nInt⟩]=some (X51_2 a0 p7 a1 p5 r3 o):=by
 unfold m51_2 at h
 rcases brx h with ⟨b8,h⟩|⟨b8,h⟩
 · obtain ⟨⟨v57,v58⟩,w56,h⟩:=bcall (e51_3 a0 (eqI a0.kind 3) a1 p5 r3) h;replace h:=sel2_some h;simp only [X51_3] at w56;(try simp -implicitDefEqProofs only [go_sem] at w56);cases h;simp -implicitDefEqProofs only [go_sem,X51_2,k51_2,b8,w56]
 · cases h;simp -implicitDefEqProofs only [go_sem,X51_2,k51_2,b8]
noncomputable def X51_1 (a0:Acn)(p4:Bool)(a1:Route)(p5:Prefix)(r3:Attrs)(o:(Int×Int×List Int×List Int)):Ex×Fr×St :=
 (.normal,frOf 73 (upd (upd anyF 4 (.ptr 0 0 0)) 5 (.ptr 3 0 0)),[some ⟨.box,8,[[nI p5.addr,nI p5.len,nI 0,.sl 1 0 0,nI 0,nI 0,nI 0,.sl 2 0 0]]⟩,some ⟨.arr,1,[]⟩,some ⟨.arr,1,[]⟩,some ⟨.box,8,[[nI a1.prefix_.addr,nI a1.prefix_.len,nI r3.origin,.sl 4 0 o.2.2.1.length,nI r3.next,nI o.1,nI o.2.1,.sl 5 0 o.2.2.2.length]]⟩,some ⟨.arr,1,o.2.2.1.map nInt⟩,some ⟨.arr,1,o.2.2.2.map nInt⟩])
theorem e51_1 (a0:Acn)(p4:Bool)(a1:Route)(p5:Prefix)(r3:Attrs)(o:(Int×Int×List Int×List Int))(h:m51_1 a0 p4 a1 r3=some o):evCL T 0 k51_1 (frOf 73 (upd (upd (upd (upd (upd (upd anyF 2 (.ptr 0 0 0)) 3 (.ptr 1 0 0)) 4 (.ptr 2 0 0)) 5 (.ptr 5 0 0)) 16 (nI a0.kind)) 17 (.bool p4))) [some ⟨.box,2,[[nI a0.kind,nI a0.n]]⟩,some ⟨.box,8,[(nRou .imm a1)]⟩,some ⟨.box,8,[[nI p5.addr,nI p5.len,nI 0,.sl 3 0 0,nI 0,nI 0,nI 0,.sl 4 0 0]]⟩,some ⟨.arr,1,[]⟩,some ⟨.arr,1,[]⟩,some ⟨.box,8,[[nI a1.prefix_.addr,nI a1.prefix_.len,nI r3.origin,.sl 6 0 r3.path.length,nI r3.next,nI r3.med,nI r3.pref,.sl 7 0 r3.comms.length]]⟩,some ⟨.arr,1,r3.path.map nInt⟩,some ⟨.arr,1,r3.comms.map nInt⟩]=some (X51_1 a0 p4 a1 p5 r3 o):=by
 unfold m51_1 at h
 rcases brx h with ⟨b6,h⟩|⟨b6,h⟩
 · obtain ⟨⟨v61,v62,v63⟩,w60,h⟩:=bcall (e51_2 a0 (eqI a0.kind 2) a1 p5 r3) h;replace h:=sel3_some h;simp only [X51_2] at w60;(try simp -implicitDefEqProofs only [go_sem] at w60);cases h;simp -implicitDefEqProofs only [go_sem,X51_1,k51_1,b6,w60]
 · cases h;simp -implicitDefEqProofs only [go_sem,X51_1,k51_1,b6]
theorem e51 (a0:Acn)(a1:Route)(r:Route)(h:m51 a0 a1=some r):evFL T 51 [.agg [nI a0.kind,nI a0.n],.agg (nRou .imm a1)] []=some (.agg [nI r.prefix_.addr,nI r.prefix_.len,nI r.attrs.origin,.sl 0 0 r.attrs.path.length,nI r.attrs.next,nI r.attrs.med,nI r.attrs.pref,.sl 1 0 r.attrs.comms.length],[some ⟨.arr,1,r.attrs.path.map nInt⟩,some ⟨.arr,1,r.attrs.comms.map nInt⟩]):=by
 unfold m51 at h;rw [evFL_at fn51 (Nat.le_of_ble_eq_true rfl) rfl (.inr rfl) ⟨rfl,rfl⟩];obtain ⟨r3,w2,h⟩:=bcall (e52 a1.attrs) h;obtain ⟨⟨v66,v67,v68,v69⟩,w65,h⟩:=bcall (e51_1 a0 (eqI a0.kind 1) a1 (⟨0,0⟩:Prefix) r3) h;replace h:=sel4_some h;(try simp -implicitDefEqProofs only [go_sem] at w2);simp only [X51_1] at w65;(try simp -implicitDefEqProofs only [go_sem] at w65);cases h;simp -implicitDefEqProofs only [go_sem,i51,c51,w2,w65]
@[go_sem] theorem call27 (args:List AV)(S:St):evCall T (evFL T) 27 args S=c3A true true (evFL T 27) (rawAll S [[5,0],[0,0,0,1,0,0,0,1]] args):=evCall3_g fn27 rfl (fun h=>absurd h.1 (by decide)) args S
noncomputable def X27_9 (a0:Policy)(p1:Int)(s94:Int)(x103:Term)(p112:Int)(s135:Int)(r154:Bool)(s136:Prefix)(s137:Int)(s138:Int)(s139:Int)(s140:Int)(s141:List Int)(s142:List Int)(p2:Prefix)(r151:Route)(o:(Prefix×Int×Int×Int×Int×List Int×List Int)):Ex×Fr×St :=
 (.normal,frOf 53 (upd (upd (upd (upd (upd (upd (upd (upd (upd (upd anyF 2 (.ptr 2 0 0)) 3 (.ptr 3 0 0)) 4 (.ptr 6 0 0)) 7 (.ptr 9 0 0)) 12 (.ts .imm 5 (a0.terms.map (nTer .imm)))) 13 (nI p1)) 14 (nI s94)) 23 (.ts .imm 2 (x103.acts.map nAcn))) 24 (nI p112)) 25 (nI s135)),[none,none,some ⟨.box,2,[(nPol .imm a0)]⟩,some ⟨.box,8,[[nI o.1.addr,nI o.1.len,nI o.2.1,.sl 4 0 o.2.2.2.2.2.1.length,nI o.2.2.1,nI o.2.2.2.1,nI o.2.2.2.2.1,.sl 5 0 o.2.2.2.2.2.2.length]]⟩,some ⟨.arr,1,o.2.2.2.2.2.1.map nInt⟩,some ⟨.arr,1,o.2.2.2.2.2.2.map nInt⟩,some ⟨.box,8,[[nI p2.addr,nI p2.len,nI 0,.sl 7 0 0,nI 0,nI 0,nI 0,.sl 8 0 0]]⟩,some ⟨.arr,1,[]⟩,some ⟨.arr,1,[]⟩,some ⟨.box,5,[(nTer .imm x103)]⟩])
theorem e27_9 (a0:Policy)(p1:Int)(s94:Int)(x103:Term)(p112:Int)(s135:Int)(r154:Bool)(s136:Prefix)(s137:Int)(s138:Int)(s139:Int)(s140:Int)(s141:List Int)(s142:List Int)(p2:Prefix)(r151:Route)(o:(Prefix×Int×Int×Int×Int×List Int×List Int))(h:m27_9 r154 s136 s137 s138 s139 s140 s141 s142 r151=some o):evCL T 2 k27_9 (frOf 53 (upd (upd (upd (upd (upd (upd (upd (upd (upd (upd (upd (upd anyF 2 (.ptr 2 0 0)) 3 (.ptr 3 0 0)) 4 (.ptr 6 0 0)) 7 (.ptr 9 0 0)) 10 (.ptr 10 0 0)) 12 (.ts .imm 5 (a0.terms.map (nTer .imm)))) 13 (nI p1)) 14 (nI s94)) 23 (.ts .imm 2 (x103.acts.map nAcn))) 24 (nI p112)) 25 (nI s135)) 33 (.bool r154))) [none,none,some ⟨.box,2,[(nPol .imm a0)]⟩,some ⟨.box,8,[[nI s136.addr,nI s136.len,nI s137,.sl 4 0 s141.length,nI s138,nI s139,nI s140,.sl 5 0 s142.length]]⟩,some ⟨.arr,1,s141.map nInt⟩,some ⟨.arr,1,s142.map nInt⟩,some ⟨.box,8,[[nI p2.addr,nI p2.len,nI 0,.sl 7 0 0,nI 0,nI 0,nI 0,.sl 8 0 0]]⟩,some ⟨.arr,1,[]⟩,some ⟨.arr,1,[]⟩,some ⟨.box,5,[(nTer .imm x103)]⟩,some ⟨.box,8,[[nI r151.prefix_.addr,nI r151.prefix_.len,nI r151.attrs.origin,.sl 11 0 r151.attrs.path.length,nI r151.attrs.next,nI r151.attrs.med,nI r151.attrs.pref,.sl 12 0 r151.attrs.comms.length]]⟩,some ⟨.arr,1,r151.attrs.path.map nInt⟩,some ⟨.arr,1,r151.attrs.comms.map nInt⟩]=some (X27_9 a0 p1 s94 x103 p112 s135 r154 s136 s137 s138 s139 s140 s141 s142 p2 r151 o):=by
 unfold m27_9 at h
 rcases brx h with ⟨b155,h⟩|⟨b155,h⟩
 · cases h;simp -implicitDefEqProofs only [go_sem,X27_9,k27_9,b155]
 · cases h;simp -implicitDefEqProofs only [go_sem,X27_9,k27_9,b155]
noncomputable def X27_7 (a0:Policy)(p1:Int)(s94:Int)(x103:Term)(p112:Int)(p2:Prefix)(o:(Prefix×Int×Int×Int×Int×List Int×List Int)):Ex×Fr×St :=
 (.exit 2,frOf 53 (upd (upd (upd (upd (upd (upd (upd anyF 2 (.ptr 2 0 0)) 3 (.ptr 3 0 0)) 4 (.ptr 6 0 0)) 7 (.ptr 9 0 0)) 12 (.ts .imm 5 (a0.terms.map (nTer .imm)))) 13 (nI p1)) 14 (nI s94)),[none,none,some ⟨.box,2,[(nPol .imm a0)]⟩,some ⟨.box,8,[[nI o.1.addr,nI o.1.len,nI o.2.1,.sl 4 0 o.2.2.2.2.2.1.length,nI o.2.2.1,nI o.2.2.2.1,nI o.2.2.2.2.1,.sl 5 0 o.2.2.2.2.2.2.length]]⟩,some ⟨.arr,1,o.2.2.2.2.2.1.map nInt⟩,some ⟨.arr,1,o.2.2.2.2.2.2.map nInt⟩,some ⟨.box,8,[[nI p2.addr,nI p2.len,nI 0,.sl 7 0 0,nI 0,nI 0,nI 0,.sl 8 0 0]]⟩,some ⟨.arr,1,[]⟩,some ⟨.arr,1,[]⟩,some ⟨.box,5,[(nTer .imm x103)]⟩])
noncomputable def E27_7 (a0:Policy)(p1:Int)(s94:Int)(x103:Term)(p112:Int)(p2:Prefix)(s:(Int×Prefix×Int×Int×Int×Int×List Int×List Int)):Fr×St:=(frOf 53 (upd (upd (upd (upd (upd (upd (upd (upd (upd (upd anyF 2 (.ptr 2 0 0)) 3 (.ptr 3 0 0)) 4 (.ptr 6 0 0)) 7 (.ptr 9 0 0)) 12 (.ts .imm 5 (a0.terms.map (nTer .imm)))) 13 (nI p1)) 14 (nI s94)) 23 (.ts .imm 2 (x103.acts.map nAcn))) 24 (nI p112)) 25 (nI s.1)),[none,none,some ⟨.box,2,[(nPol .imm a0)]⟩,some ⟨.box,8,[[nI s.2.1.addr,nI s.2.1.len,nI s.2.2.1,.sl 4 0 s.2.2.2.2.2.2.1.length,nI s.2.2.2.1,nI s.2.2.2.2.1,nI s.2.2.2.2.2.1,.sl 5 0 s.2.2.2.2.2.2.2.length]]⟩,some ⟨.arr,1,s.2.2.2.2.2.2.1.map nInt⟩,some ⟨.arr,1,s.2.2.2.2.2.2.2.map nInt⟩,some ⟨.box,8,[[nI p2.addr,nI p2.len,nI 0,.sl 7 0 0,nI 0,nI 0,nI 0,.sl 8 0 0]]⟩,some ⟨.arr,1,[]⟩,some ⟨.arr,1,[]⟩,some ⟨.box,5,[(nTer .imm x103)]⟩])
theorem b27_7 (a0:Policy)(p1:Int)(s94:Int)(x103:Term)(p112:Int)(p2:Prefix)(s:(Int×Prefix×Int×Int×Int×Int×List Int×List Int))(o:Ctl (Int×Prefix×Int×Int×Int×Int×List Int×List Int) (Prefix×Int×Int×Int×Int×List Int×List Int))(h:m27_7b x103 p112 s=some o):evCL T 2 k27_7b (E27_7 a0 p1 s94 x103 p112 p2 s).1 (E27_7 a0 p1 s94 x103 p112 p2 s).2=some (ctlX (E27_7 a0 p1 s94 x103 p112 p2) (X27_7 a0 p1 s94 x103 p112 p2) o):=by
 unfold m27_7b at h;obtain ⟨s135,s136,s137,s138,s139,s140,s141,s142⟩:=s;replace h:=sel8_some h
 rcases brx h with ⟨b143,h⟩|⟨b143,h⟩
 · cases h;simp -implicitDefEqProofs only [go_sem,E27_7,X27_7,k27_7b,b143]
 · obtain ⟨x144,g146,g147,g148,h⟩:=bidx nAcn h;obtain ⟨r151,w150,h⟩:=bcall (e51 x144 (⟨s136,(⟨s137,s141,s138,s139,s140,s142⟩:Attrs)⟩:Route)) h;obtain ⟨r154,w153,h⟩:=bcall (e26 r151) h;obtain ⟨⟨v158,v159,v160,v161,v162,v163,v164⟩,w157,h⟩:=bcall (e27_9 a0 p1 s94 x103 p112 s135 r154 s136 s137 s138 s139 s140 s141 s142 p2 r151) h;replace h:=sel7_some h;(try simp -implicitDefEqProofs only [go_sem] at g147 g148 w150 w153);simp only [X27_9] at w157;(try simp -implicitDefEqProofs only [go_sem] at w157);cases h;simp -implicitDefEqProofs only [go_sem,E27_7,X27_7,k27_7b,b143,g146,g147,g148,w150,w153,w157]
theorem e27_7 (a0:Policy)(p1:Int)(s94:Int)(x103:Term)(p112:Int)(p2:Prefix)(s:(Int×Prefix×Int×Int×Int×Int×List Int×List Int))(o:(Prefix×Int×Int×Int×Int×List Int×List Int))(h:loopP (m27_7b x103 p112) s=some o):evCL T 2 (.loop k27_7b) (E27_7 a0 p1 s94 x103 p112 p2 s).1 (E27_7 a0 p1 s94 x103 p112 p2 s).2=some (X27_7 a0 p1 s94 x103 p112 p2 o) :=
 loop_walk (E:=E27_7 a0 p1 s94 x103 p112 p2) (X:=X27_7 a0 p1 s94 x103 p112 p2) (by intro b;(simp only [X27_7];nofun)) (b27_7 a0 p1 s94 x103 p112 p2) s o h
noncomputable def X27_6 (a0:Policy)(p1:Int)(s94:Int)(s95:Prefix)(s96:Int)(s97:Int)(s98:Int)(s99:Int)(s100:List Int)(s101:List Int)(p2:Prefix)(o:((Prefix×Int×Int×Int×Int×List Int×List Int) ⊕ (Int×Prefix×Int×Int×Int×Int×List Int×List Int))):Ex×Fr×St :=
 match o with
 | .inl o=>(.normal,frOf 53 (upd (upd (upd (upd (upd (upd anyF 2 (.ptr 2 0 0)) 3 (.ptr 3 0 0)) 4 (.ptr 6 0 0)) 12 (.ts .imm 5 (a0.terms.map (nTer .imm)))) 13 (nI p1)) 14 (nI s94)),[none,none,some ⟨.box,2,[(nPol .imm a0)]⟩,some ⟨.box,8,[[nI o.1.addr,nI o.1.len,nI o.2.1,.sl 4 0 o.2.2.2.2.2.1.length,nI o.2.2.1,nI o.2.2.2.1,nI o.2.2.2.2.1,.sl 5 0 o.2.2.2.2.2.2.length]]⟩,some ⟨.arr,1,o.2.2.2.2.2.1.map nInt⟩,some ⟨.arr,1,o.2.2.2.2.2.2.map nInt⟩,some ⟨.box,8,[[nI p2.addr,nI p2.len,nI 0,.sl 7 0 0,nI 0,nI 0,nI 0,.sl 8 0 0]]⟩,some ⟨.arr,1,[]⟩,some ⟨.arr,1,[]⟩])
 | .inr o=>(.ret,frOf 53 (upd (upd anyF 4 (.ptr 2 0 0)) 5 (nI o.1)),[none,none,some ⟨.box,8,[[nI o.2.1.addr,nI o.2.1.len,nI o.2.2.1,.sl 3 0 o.2.2.2.2.2.2.1.length,nI o.2.2.2.1,nI o.2.2.2.2.1,nI o.2.2.2.2.2.1,.sl 4 0 o.2.2.2.2.2.2.2.length]]⟩,some ⟨.arr,1,o.2.2.2.2.2.2.1.map nInt⟩,some ⟨.arr,1,o.2.2.2.2.2.2.2.map nInt⟩])
theorem e27_6 (a0:Policy)(p1:Int)(s94:Int)(s95:Prefix)(s96:Int)(s97:Int)(s98:Int)(s99:Int)(s100:List Int)(s101:List Int)(p2:Prefix)(o:((Prefix×Int×Int×Int×Int×List Int×List Int) ⊕ (Int×Prefix×Int×Int×Int×Int×List Int×List Int)))(h:m27_6 a0 s94 s95 s96 s97 s98 s99 s100 s101=some o):evCL T 2 k27_6 (frOf 53 (upd (upd (upd (upd (upd (upd anyF 2 (.ptr 2 0 0)) 3 (.ptr 3 0 0)) 4 (.ptr 6 0 0)) 12 (.ts .imm 5 (a0.terms.map (nTer .imm)))) 13 (nI p1)) 14 (nI s94))) [none,none,some ⟨.box,2,[(nPol .imm a0)]⟩,some ⟨.box,8,[[nI s95.addr,nI s95.len,nI s96,.sl 4 0 s100.length,nI s97,nI s98,nI s99,.sl 5 0 s101.length]]⟩,some ⟨.arr,1,s100.map nInt⟩,some ⟨.arr,1,s101.map nInt⟩,some ⟨.box,8,[[nI p2.addr,nI p2.len,nI 0,.sl 7 0 0,nI 0,nI 0,nI 0,.sl 8 0 0]]⟩,some ⟨.arr,1,[]⟩,some ⟨.arr,1,[]⟩]=some (X27_6 a0 p1 s94 s95 s96 s97 s98 s99 s100 s101 p2 o):=by
 unfold m27_6 at h;obtain ⟨x103,g105,g106,g107,h⟩:=bidx (nTer .imm) h;obtain ⟨r110,w109,h⟩:=bcall (e50 x103 (⟨s95,(⟨s96,s100,s97,s98,s99,s101⟩:Attrs)⟩:Route)) h;try simp -implicitDefEqProofs only [go_sem] at g106 g107 w109
 rcases brx h with ⟨b111,h⟩|⟨b111,h⟩
 · cases h;simp -implicitDefEqProofs only [go_sem,X27_6,k27_6,g105,g106,g107,w109,b111]
 · obtain ⟨⟨v167,v168,v169,v170,v171,v172,v173⟩,w166,h⟩:=bcall (e27_7 a0 p1 s94 x103 (↑x103.acts.length:Int) p2 (0,s95,s96,s97,s98,s99,s100,s101)) h;replace h:=sel7_some h;simp only [E27_7,X27_7] at w166;try simp -implicitDefEqProofs only [go_sem] at w166
   rcases brx h with ⟨b174,h⟩|⟨b174,h⟩
   · try simp -implicitDefEqProofs only [go_sem,X27_6,k27_6,g105,g106,g107,w109,b111,w166,b174]
     rcases brx h with ⟨b175,h⟩|⟨b175,h⟩
     · cases h;simp -implicitDefEqProofs only [go_sem,X27_6,k27_6,g105,g106,g107,w109,b111,w166,b174,b175]
     · cases h;simp -implicitDefEqProofs only [go_sem,X27_6,k27_6,g105,g106,g107,w109,b111,w166,b174,b175]
   · cases h;simp -implicitDefEqProofs only [go_sem,X27_6,k27_6,g105,g106,g107,w109,b111,w166,b174]
noncomputable def X27_1 (a0:Policy)(p1:Int)(p2:Prefix)(o:((Prefix×Int×Int×Int×Int×List Int×List Int) ⊕ (Int×Prefix×Int×Int×Int×Int×List Int×List Int))):Ex×Fr×St :=
 match o with
 | .inl o=>(.exit 0,frOf 53 (upd (upd (upd anyF 2 (.ptr 2 0 0)) 3 (.ptr 3 0 0)) 4 (.ptr 6 0 0)),[none,none,some ⟨.box,2,[(nPol .imm a0)]⟩,some ⟨.box,8,[[nI o.1.addr,nI o.1.len,nI o.2.1,.sl 4 0 o.2.2.2.2.2.1.length,nI o.2.2.1,nI o.2.2.2.1,nI o.2.2.2.2.1,.sl 5 0 o.2.2.2.2.2.2.length]]⟩,some ⟨.arr,1,o.2.2.2.2.2.1.map nInt⟩,some ⟨.arr,1,o.2.2.2.2.2.2.map nInt⟩,some ⟨.box,8,[[nI p2.addr,nI p2.len,nI 0,.sl 7 0 0,nI 0,nI 0,nI 0,.sl 8 0 0]]⟩,some ⟨.arr,1,[]⟩,some ⟨.arr,1,[]⟩])
 | .inr o=>(.ret,frOf 53 (upd (upd anyF 4 (.ptr 2 0 0)) 5 (nI o.1)),[none,none,some ⟨.box,8,[[nI o.2.1.addr,nI o.2.1.len,nI o.2.2.1,.sl 3 0 o.2.2.2.2.2.2.1.length,nI o.2.2.2.1,nI o.2.2.2.2.1,nI o.2.2.2.2.2.1,.sl 4 0 o.2.2.2.2.2.2.2.length]]⟩,some ⟨.arr,1,o.2.2.2.2.2.2.1.map nInt⟩,some ⟨.arr,1,o.2.2.2.2.2.2.2.map nInt⟩])
noncomputable def E27_1 (a0:Policy)(p1:Int)(p2:Prefix)(s:(Int×Prefix×Int×Int×Int×Int×List Int×List Int)):Fr×St:=(frOf 53 (upd (upd (upd (upd (upd (upd anyF 2 (.ptr 2 0 0)) 3 (.ptr 3 0 0)) 4 (.ptr 6 0 0)) 12 (.ts .imm 5 (a0.terms.map (nTer .imm)))) 13 (nI p1)) 14 (nI s.1)),[none,none,some ⟨.box,2,[(nPol .imm a0)]⟩,some ⟨.box,8,[[nI s.2.1.addr,nI s.2.1.len,nI s.2.2.1,.sl 4 0 s.2.2.2.2.2.2.1.length,nI s.2.2.2.1,nI s.2.2.2.2.1,nI s.2.2.2.2.2.1,.sl 5 0 s.2.2.2.2.2.2.2.length]]⟩,some ⟨.arr,1,s.2.2.2.2.2.2.1.map nInt⟩,some ⟨.arr,1,s.2.2.2.2.2.2.2.map nInt⟩,some ⟨.box,8,[[nI p2.addr,nI p2.len,nI 0,.sl 7 0 0,nI 0,nI 0,nI 0,.sl 8 0 0]]⟩,some ⟨.arr,1,[]⟩,some ⟨.arr,1,[]⟩])
theorem b27_1 (a0:Policy)(p1:Int)(p2:Prefix)(s:(Int×Prefix×Int×Int×Int×Int×List Int×List Int))(o:Ctl (Int×Prefix×Int×Int×Int×Int×List Int×List Int) ((Prefix×Int×Int×Int×Int×List Int×List Int) ⊕ (Int×Prefix×Int×Int×Int×Int×List Int×List Int)))(h:m27_1b a0 p1 s=some o):evCL T 2 k27_1b (E27_1 a0 p1 p2 s).1 (E27_1 a0 p1 p2 s).2=some (ctlX (E27_1 a0 p1 p2) (X27_1 a0 p1 p2) o):=by
 unfold m27_1b at h;obtain ⟨s94,s95,s96,s97,s98,s99,s100,s101⟩:=s;replace h:=sel8_some h
 rcases brx h with ⟨b102,h⟩|⟨b102,h⟩
 · cases h;simp -implicitDefEqProofs only [go_sem,E27_1,X27_1,k27_1b,b102]
 · (try simp -implicitDefEqProofs only [go_sem,E27_1,X27_1,k27_1b,b102]);obtain ⟨o,q176,h⟩:=bnd_some h
   rcases o with ⟨v178,v179,v180,v181,v182,v183,v184⟩|⟨v185,v186,v187,v188,v189,v190,v191,v192⟩
   · replace h:=selS_l h;replace h:=sel7_some h;have w177:=e27_6 a0 p1 s94 s95 s96 s97 s98 s99 s100 s101 p2 (.inl (v178,v179,v180,v181,v182,v183,v184)) q176;simp only [X27_6] at w177;(try simp -implicitDefEqProofs only [go_sem] at w177);cases h;simp -implicitDefEqProofs only [go_sem,E27_1,X27_1,k27_1b,b102,w177]
   · replace h:=selS_r h;replace h:=sel8_some h;have w177:=e27_6 a0 p1 s94 s95 s96 s97 s98 s99 s100 s101 p2 (.inr (v185,v186,v187,v188,v189,v190,v191,v192)) q176;simp only [X27_6] at w177;(try simp -implicitDefEqProofs only [go_sem] at w177);cases h;simp -implicitDefEqProofs only [go_sem,E27_1,X27_1,k27_1b,b102,w177]
theorem e27_1 (a0:Policy)(p1:Int)(p2:Prefix)(s:(Int×Prefix×Int×Int×Int×Int×List Int×List Int))(o:((Prefix×Int×Int×Int×Int×List Int×List Int) ⊕ (Int×Prefix×Int×Int×Int×Int×List Int×List Int)))(h:loopP (m27_1b a0 p1) s=some o):evCL T 2 (.loop k27_1b) (E27_1 a0 p1 p2 s).1 (E27_1 a0 p1 p2 s).2=some (X27_1 a0 p1 p2 o) :=
 loop_walk (E:=E27_1 a0 p1 p2) (X:=X27_1 a0 p1 p2) (by intro b;rcases b with b | b<;>(simp only [X27_1];nofun)) (b27_1 a0 p1 p2) s o h
theorem e27 (a0:Policy)(a1:Route)(r:(Int×Prefix×Int×Int×Int×Int×List Int×List Int))(h:m27 a0 a1=some r):evFL T 27 [.agg (nPol .imm a0),.agg [nI a1.prefix_.addr,nI a1.prefix_.len,nI a1.attrs.origin,.sl 0 0 a1.attrs.path.length,nI a1.attrs.next,nI a1.attrs.med,nI a1.attrs.pref,.sl 1 0 a1.attrs.comms.length]] [some ⟨.arr,1,a1.attrs.path.map nInt⟩,some ⟨.arr,1,a1.attrs.comms.map nInt⟩]=some (.tup [.agg [nI r.2.1.addr,nI r.2.1.len,nI r.2.2.1,.sl 3 0 r.2.2.2.2.2.2.1.length,nI r.2.2.2.1,nI r.2.2.2.2.1,nI r.2.2.2.2.2.1,.sl 4 0 r.2.2.2.2.2.2.2.length],nI r.1],[none,none,some ⟨.box,8,[[nI r.2.1.addr,nI r.2.1.len,nI r.2.2.1,.sl 3 0 r.2.2.2.2.2.2.1.length,nI r.2.2.2.1,nI r.2.2.2.2.1,nI r.2.2.2.2.2.1,.sl 4 0 r.2.2.2.2.2.2.2.length]]⟩,some ⟨.arr,1,r.2.2.2.2.2.2.1.map nInt⟩,some ⟨.arr,1,r.2.2.2.2.2.2.2.map nInt⟩]):=by
 unfold m27 at h;rw [evFL_at fn27 (Nat.le_of_ble_eq_true rfl) rfl (.inl rfl) ⟨rfl,rfl⟩];(try simp -implicitDefEqProofs only [go_sem,i27,c27]);obtain ⟨o,q193,h⟩:=bnd_some h
 rcases o with ⟨v195,v196,v197,v198,v199,v200,v201⟩|⟨v203,v204,v205,v206,v207,v208,v209,v210⟩
 · replace h:=selS_l h;replace h:=sel7_some h;have w194:=e27_1 a0 (↑a0.terms.length:Int) (⟨0,0⟩:Prefix) (0,a1.prefix_,a1.attrs.origin,a1.attrs.next,a1.attrs.med,a1.attrs.pref,a1.attrs.path,a1.attrs.comms) (.inl (v195,v196,v197,v198,v199,v200,v201)) q193;simp only [E27_1,X27_1] at w194;(try simp -implicitDefEqProofs only [go_sem] at w194);try simp -implicitDefEqProofs only [go_sem,i27,c27,w194]
   rcases brx h with ⟨b202,h⟩|⟨b202,h⟩
   · cases h;simp -implicitDefEqProofs only [go_sem,i27,c27,w194,b202]
   · cases h;simp -implicitDefEqProofs only [go_sem,i27,c27,w194,b202]
 · replace h:=selS_r h;replace h:=sel8_some h;have w194:=e27_1 a0 (↑a0.terms.length:Int) (⟨0,0⟩:Prefix) (0,a1.prefix_,a1.attrs.origin,a1.attrs.next,a1.attrs.med,a1.attrs.pref,a1.attrs.path,a1.attrs.comms) (.inr (v203,v204,v205,v206,v207,v208,v209,v210)) q193;simp only [E27_1,X27_1] at w194;(try simp -implicitDefEqProofs only [go_sem] at w194);cases h;simp -implicitDefEqProofs only [go_sem,i27,c27,w194]
@[go_sem] theorem calls7 (args:List AV)(S:St):evCall (T.at true) (evFL T) 7 args S=lendC (evFL T 7) S (lendAll S [[5,0],[0,0,0,1,0,0,0,1]] args):=evCall0 fns7 rfl rfl rfl args S
noncomputable def X7_1 (a0:Policy)(a1:Route)(p1:Prefix)(o:Bool):Ex×Fr×St :=
 (.normal,frOf 28 (upd (upd (upd (upd anyF 2 (.ptr 0 0 0)) 3 (.ptr 1 0 0)) 4 (.ptr 2 0 0)) 16 (.bool o)),[some ⟨.box,2,[(nPol .imm a0)]⟩,some ⟨.box,8,[(nRou .imm a1)]⟩,some ⟨.box,8,[[nI p1.addr,nI p1.len,nI 0,.sl 3 0 0,nI 0,nI 0,nI 0,.sl 4 0 0]]⟩,some ⟨.arr,1,[]⟩,some ⟨.arr,1,[]⟩])
theorem e7_1 (a0:Policy)(a1:Route)(p1:Prefix)(o:Bool)(h:m7_1 a0 a1=some o):evCL T 0 k7_1 (frOf 28 (upd (upd (upd anyF 2 (.ptr 0 0 0)) 3 (.ptr 1 0 0)) 4 (.ptr 2 0 0))) [some ⟨.box,2,[(nPol .imm a0)]⟩,some ⟨.box,8,[(nRou .imm a1)]⟩,some ⟨.box,8,[[nI p1.addr,nI p1.len,nI 0,.sl 3 0 0,nI 0,nI 0,nI 0,.sl 4 0 0]]⟩,some ⟨.arr,1,[]⟩,some ⟨.arr,1,[]⟩]=some (X7_1 a0 a1 p1 o):=by
 unfold m7_1 at h;obtain ⟨r4,w3,h⟩:=bcall (e25 a0) h;try simp -implicitDefEqProofs only [go_sem] at w3
 rcases brx h with ⟨b5,h⟩|⟨b5,h⟩
 · cases h;simp -implicitDefEqProofs only [go_sem,X7_1,k7_1,w3,b5]
 · obtain ⟨r8,w7,h⟩:=bcall (e26 a1) h;(try simp -implicitDefEqProofs only [go_sem] at w7);cases h;simp -implicitDefEqProofs only [go_sem,X7_1,k7_1,w3,b5,w7]
theorem e7 (a0:Policy)(a1:Route)(r:(Route×Int×Bool))(h:m7 a0 a1=some r):evFL T 7 [.agg (nPol .imm a0),.agg (nRou .imm a1)] []=some (.tup [.agg [nI r.1.prefix_.addr,nI r.1.prefix_.len,nI r.1.attrs.origin,.sl 0 0 r.1.attrs.path.length,nI r.1.attrs.next,nI r.1.attrs.med,nI r.1.attrs.pref,.sl 1 0 r.1.attrs.comms.length],nI r.2.1,.bool r.2.2],[some ⟨.arr,1,r.1.attrs.path.map nInt⟩,some ⟨.arr,1,r.1.attrs.comms.map nInt⟩]):=by
 unfold m7 at h;rw [evFL_at fn7 (Nat.le_of_ble_eq_true rfl) rfl (.inr rfl) ⟨rfl,rfl⟩];obtain ⟨v11,w10,h⟩:=bcall (e7_1 a0 a1 (⟨0,0⟩:Prefix)) h;simp only [X7_1] at w10;try simp -implicitDefEqProofs only [go_sem] at w10
 rcases brx h with ⟨b12,h⟩|⟨b12,h⟩
 · obtain ⟨r15,w14,h⟩:=bcall (e28 a1) h;obtain ⟨⟨r18,r19,r20,r21,r22,r23,r24,r25⟩,w17,h⟩:=bcall (e27 a0 r15) h;replace h:=sel8_some h;obtain ⟨r28,w27,h⟩:=bcall (e28 (⟨r19,(⟨r20,r24,r21,r22,r23,r25⟩:Attrs)⟩:Route)) h;(try simp -implicitDefEqProofs only [go_sem] at w14 w17 w27);cases h;simp -implicitDefEqProofs only [go_sem,i7,c7,w10,b12,w14,w17,w27]
 · cases h;simp -implicitDefEqProofs only [go_sem,i7,c7,w10,b12]
@[go_sem] theorem call84:CL 84 [[5],[0]]:=evCall0 fn84 rfl rfl rfl
noncomputable def X84_1 (a1_f:Nat)(a1_c:List AV)(a0:List Term)(p1:Int)(a1:(Term→Option Bool))(o:(Unit ⊕ Int)):Ex×Fr×St :=
 match o with
 | .inl o=>(.exit 0,frOf 19 (anyF),[])
 | .inr o=>(.ret,frOf 19 (upd anyF 4 (nI o)),[])
noncomputable def E84_1 (a1_f:Nat)(a1_c:List AV)(a0:List Term)(p1:Int)(a1:(Term→Option Bool))(s:Int):Fr×St:=(frOf 19 (upd (upd (upd (upd anyF 0 (.ts .imm 5 (a0.map (nTer .imm)))) 1 (.fn a1_f a1_c)) 7 (nI p1)) 8 (nI s)),[])
theorem b84_1 (a0:List Term)(p1:Int)(a1:(Term→Option Bool))(a1_f:Nat)(a1_c:List AV)(a1_h:capOk a1_c∧∀y0 r,a1 y0=some r→clR a1_f a1_c [.agg (nTer .imm y0)] (.bool r))(s:Int)(o:Ctl Int (Unit ⊕ Int))(h:m84_1b a0 p1 a1 s=some o):evCL T 0 k84_1b (E84_1 a1_f a1_c a0 p1 a1 s).1 (E84_1 a1_f a1_c a0 p1 a1 s).2=some (ctlX (E84_1 a1_f a1_c a0 p1 a1) (X84_1 a1_f a1_c a0 p1 a1) o):=by
 unfold m84_1b at h
 revert h
 generalize s=s12;intro h
 rcases brx h with ⟨b13,h⟩|⟨b13,h⟩
 · cases h;simp -implicitDefEqProofs only [go_sem,E84_1,X84_1,k84_1b,a1_h.1,b13]
 · obtain ⟨x14,g16,g17,g18,h⟩:=bidx (nTer .imm) h;obtain ⟨r19,w21,h⟩:=bcall (a1_h.2 x14) h;try simp -implicitDefEqProofs only [go_sem] at g17 g18 w21
   rcases brx h with ⟨b22,h⟩|⟨b22,h⟩
   · cases h;simp -implicitDefEqProofs only [go_sem,E84_1,X84_1,k84_1b,a1_h.1,b13,g16,g17,g18,w21.1,w21.2,b22]
   · cases h;simp -implicitDefEqProofs only [go_sem,E84_1,X84_1,k84_1b,a1_h.1,b13,g16,g17,g18,w21.1,w21.2,b22]
theorem e84_1 (a0:List Term)(p1:Int)(a1:(Term→Option Bool))(a1_f:Nat)(a1_c:List AV)(a1_h:capOk a1_c∧∀y0 r,a1 y0=some r→clR a1_f a1_c [.agg (nTer .imm y0)] (.bool r))(s:Int)(o:(Unit ⊕ Int))(h:loopP (m84_1b a0 p1 a1) s=some o):evCL T 0 (.loop k84_1b) (E84_1 a1_f a1_c a0 p1 a1 s).1 (E84_1 a1_f a1_c a0 p1 a1 s).2=some (X84_1 a1_f a1_c a0 p1 a1 o) :=
 loop_walk (E:=E84_1 a1_f a1_c a0 p1 a1) (X:=X84_1 a1_f a1_c a0 p1 a1) (by intro b;rcases b with b | b<;>(simp only [X84_1];nofun)) (b84_1 a0 p1 a1 a1_f a1_c a1_h) s o h
theorem e84 (a0:List Term)(a1:(Term→Option Bool))(a1_f:Nat)(a1_c:List AV)(a1_h:capOk a1_c∧∀y0 r,a1 y0=some r→clR a1_f a1_c [.agg (nTer .imm y0)] (.bool r))(r:Int)(h:m84 a0 a1=some r):evFL T 84 [.ts .imm 5 (a0.map (nTer .imm)),.fn a1_f a1_c] []=some (nI r,[]):=by
 unfold m84 at h;rw [evFL_at fn84 (Nat.le_of_ble_eq_true rfl) rfl (.inr rfl) ⟨rfl,rfl⟩];(try simp -implicitDefEqProofs only [go_sem,i84,c84,a1_h.1]);obtain ⟨o,q23,h⟩:=bnd_some h
 rcases o with ⟨⟩|v25
 · replace h:=selS_l h;have w24:=e84_1 a0 (↑a0.length:Int) a1 a1_f a1_c a1_h 0 (.inl ()) q23;simp only [E84_1,X84_1] at w24;(try simp -implicitDefEqProofs only [go_sem] at w24);cases h;simp -implicitDefEqProofs only [go_sem,i84,c84,a1_h.1,w24]
 · replace h:=selS_r h;have w24:=e84_1 a0 (↑a0.length:Int) a1 a1_f a1_c a1_h 0 (.inr v25) q23;simp only [E84_1,X84_1] at w24;(try simp -implicitDefEqProofs only [go_sem] at w24);cases h;simp -implicitDefEqProofs only [go_sem,i84,c84,a1_h.1,w24]
@[go_sem] theorem call55:CL 55 [[5],[0]]:=evCall0 fn55 rfl rfl rfl
theorem e55 (a0:List Term)(a1:(Term→Option Bool))(a1_f:Nat)(a1_c:List AV)(a1_h:capOk a1_c∧∀y0 r,a1 y0=some r→clR a1_f a1_c [.agg (nTer .imm y0)] (.bool r))(r:Bool)(h:m55 a0 a1=some r):evFL T 55 [.ts .imm 5 (a0.map (nTer .imm)),.fn a1_f a1_c] []=some (.bool r,[]):=by
 unfold m55 at h;rw [evFL_at fn55 (Nat.le_of_ble_eq_true rfl) rfl (.inr rfl) ⟨rfl,rfl⟩];obtain ⟨r3,w2,h⟩:=bcall (e84 a0 a1 a1_f a1_c a1_h) h;(try simp -implicitDefEqProofs only [go_sem] at w2);cases h;simp -implicitDefEqProofs only [go_sem,i55,c55,a1_h.1,w2]
theorem call87:CL 87 [[0],[0],[0]]:=evCall0 fn87 rfl rfl rfl
theorem callz87:CZ 87 [[0]] [[0],[0],[0]]:=evCallFz0 fn87 rfl rfl rfl
attribute [go_sem] call87 callz87
noncomputable def X87_1 (a0:Int)(a1:Int)(a2:Int)(o:Bool):Ex×Fr×St :=
 (.normal,frOf 15 (upd anyF 6 (.bool o)),[])
theorem e87_1 (a0:Int)(a1:Int)(a2:Int)(o:Bool)(h:m87_1 a0 a1 a2=some o):evCL T 0 k87_1 (frOf 15 (upd (upd (upd anyF 0 (nI a0)) 1 (nI a1)) 2 (nI a2))) []=some (X87_1 a0 a1 a2 o):=by
 unfold m87_1 at h
 rcases brx h with ⟨b1,h⟩|⟨b1,h⟩
 · cases h;simp -implicitDefEqProofs only [go_sem,X87_1,k87_1,b1]
 · cases h;simp -implicitDefEqProofs only [go_sem,X87_1,k87_1,b1]
theorem e87 (a0:Int)(a1:Int)(a2:Int)(r:Bool)(h:m87 a0 a1 a2=some r):evFL T 87 [nI a0,nI a1,nI a2] []=some (.bool r,[]):=by
 unfold m87 at h;rw [evFL_at fn87 (Nat.le_of_ble_eq_true rfl) rfl (.inr rfl) ⟨rfl,rfl⟩];obtain ⟨v4,w3,h⟩:=bcall (e87_1 a0 a1 a2) h;simp only [X87_1] at w3;(try simp -implicitDefEqProofs only [go_sem] at w3);cases h;simp -implicitDefEqProofs only [go_sem,i87,c87,w3]
@[go_sem] theorem call140:CL 140 [[0]]:=evCall0 fn140 rfl rfl rfl
noncomputable def X140_3 (a0:Int)(p5:Bool)(o:Bool):Ex×Fr×St :=
 (.normal,frOf 14 (upd (upd anyF 3 (nI a0)) 4 (.bool o)),[])
theorem e140_3 (a0:Int)(p5:Bool)(o:Bool)(h:m140_3 a0 p5=some o):evCL T 0 k140_3 (frOf 14 (upd (upd anyF 3 (nI a0)) 4 (.bool p5))) []=some (X140_3 a0 p5 o):=by
 unfold m140_3 at h
 rcases brx h with ⟨b6,h⟩|⟨b6,h⟩
 · cases h;simp -implicitDefEqProofs only [go_sem,X140_3,k140_3,b6]
 · cases h;simp -implicitDefEqProofs only [go_sem,X140_3,k140_3,b6]
noncomputable def X140_2 (a0:Int)(p3:Bool)(o:Bool):Ex×Fr×St :=
 (.normal,frOf 14 (upd (upd anyF 3 (nI a0)) 4 (.bool o)),[])
theorem e140_2 (a0:Int)(p3:Bool)(o:Bool)(h:m140_2 a0 p3=some o):evCL T 0 k140_2 (frOf 14 (upd (upd anyF 3 (nI a0)) 4 (.bool p3))) []=some (X140_2 a0 p3 o):=by
 unfold m140_2 at h
 rcases brx h with ⟨b4,h⟩|⟨b4,h⟩
 · obtain ⟨v9,w8,h⟩:=bcall (e140_3 a0 (eqI a0 3)) h;simp only [X140_3] at w8;(try simp -implicitDefEqProofs only [go_sem] at w8);cases h;simp -implicitDefEqProofs only [go_sem,X140_2,k140_2,b4,w8]
 · cases h;simp -implicitDefEqProofs only [go_sem,X140_2,k140_2,b4]
noncomputable def X140_1 (a0:Int)(p1:Bool)(o:Bool):Ex×Fr×St :=
 (.normal,frOf 14 (upd (upd anyF 3 (nI a0)) 4 (.bool o)),[])
theorem e140_1 (a0:Int)(p1:Bool)(o:Bool)(h:m140_1 a0 p1=some o):evCL T 0 k140_1 (frOf 14 (upd (upd anyF 3 (nI a0)) 4 (.bool p1))) []=some (X140_1 a0 p1 o):=by
 unfold m140_1 at h
 rcases brx h with ⟨b2,h⟩|⟨b2,h⟩
 · obtain ⟨v12,w11,h⟩:=bcall (e140_2 a0 (eqI a0 2)) h;simp only [X140_2] at w11;(try simp -implicitDefEqProofs only [go_sem] at w11);cases h;simp -implicitDefEqProofs only [go_sem,X140_1,k140_1,b2,w11]
 · cases h;simp -implicitDefEqProofs only [go_sem,X140_1,k140_1,b2]
noncomputable def X140_4 (a0:Int)(p18:Bool)(o:Bool):Ex×Fr×St :=
 (.normal,frOf 14 (upd anyF 11 (.bool o)),[])
theorem e140_4 (a0:Int)(p18:Bool)(o:Bool)(h:m140_4 a0 p18=some o):evCL T 0 k140_4 (frOf 14 (upd (upd anyF 3 (nI a0)) 11 (.bool p18))) []=some (X140_4 a0 p18 o):=by
 unfold m140_4 at h
 rcases brx h with ⟨b19,h⟩|⟨b19,h⟩
 · cases h;simp -implicitDefEqProofs only [go_sem,X140_4,k140_4,b19]
 · cases h;simp -implicitDefEqProofs only [go_sem,X140_4,k140_4,b19]
theorem e140 (a0:Int)(r:Int)(h:m140 a0=some r):evFL T 140 [nI a0] []=some (nI r,[]):=by
 unfold m140 at h;rw [evFL_at fn140 (Nat.le_of_ble_eq_true rfl) rfl (.inr rfl) ⟨rfl,rfl⟩];obtain ⟨v15,w14,h⟩:=bcall (e140_1 a0 (eqI a0 1)) h;simp only [X140_1] at w14;try simp -implicitDefEqProofs only [go_sem] at w14
 rcases brx h with ⟨b16,h⟩|⟨b16,h⟩
 · try simp -implicitDefEqProofs only [go_sem,i140,c140,w14,b16]
   rcases brx h with ⟨b17,h⟩|⟨b17,h⟩
   · obtain ⟨v22,w21,h⟩:=bcall (e140_4 a0 (eqI a0 5)) h;simp only [X140_4] at w21;try simp -implicitDefEqProofs only [go_sem] at w21
     rcases brx h with ⟨b23,h⟩|⟨b23,h⟩
     · cases h;simp -implicitDefEqProofs only [go_sem,i140,c140,w14,b16,b17,w21,b23]
     · cases h;simp -implicitDefEqProofs only [go_sem,i140,c140,w14,b16,b17,w21,b23]
   · cases h;simp -implicitDefEqProofs only [go_sem,i140,c140,w14,b16,b17]
 · cases h;simp -implicitDefEqProofs only [go_sem,i140,c140,w14,b16]
@[go_sem] theorem call116:CL 116 [[2],[0]]:=evCall0 fn116 rfl rfl rfl
noncomputable def X116_1 (a0:List ReCell)(a1:Int)(o:(Unit ⊕ Int)):Ex×Fr×St :=
 match o with
 | .inl o=>(.exit 0,frOf 33 (anyF),[])
 | .inr o=>(.ret,frOf 33 (upd anyF 4 (nI o)),[])
noncomputable def E116_1 (a0:List ReCell)(a1:Int)(s:(Int×Int)):Fr×St:=(frOf 33 (upd (upd (upd (upd anyF 0 (.ts .imm 2 (a0.map nReC))) 1 (nI a1)) 5 (nI s.1)) 6 (nI s.2)),[])
theorem b116_1 (a0:List ReCell)(a1:Int)(s:(Int×Int))(o:Ctl (Int×Int) (Unit ⊕ Int))(h:m116_1b a0 a1 s=some o):evCL T 0 k116_1b (E116_1 a0 a1 s).1 (E116_1 a0 a1 s).2=some (ctlX (E116_1 a0 a1) (X116_1 a0 a1) o):=by
 unfold m116_1b at h;obtain ⟨s12,s13⟩:=s;replace h:=sel2_some h
 rcases brx h with ⟨b14,h⟩|⟨b14,h⟩
 · cases h;simp -implicitDefEqProofs only [go_sem,E116_1,X116_1,k116_1b,b14]
 · obtain ⟨x15,g17,g18,g19,h⟩:=bidx nReC h;obtain ⟨r22,w21,h⟩:=bcall (e140 x15.kind) h;try simp -implicitDefEqProofs only [go_sem] at g18 g19 w21
   rcases brx h with ⟨b23,h⟩|⟨b23,h⟩
   · try simp -implicitDefEqProofs only [go_sem,E116_1,X116_1,k116_1b,b14,g17,g18,g19,w21,b23]
     rcases brx h with ⟨b24,h⟩|⟨b24,h⟩
     · cases h;simp -implicitDefEqProofs only [go_sem,E116_1,X116_1,k116_1b,b14,g17,g18,g19,w21,b23,b24]
     · cases h;simp -implicitDefEqProofs only [go_sem,E116_1,X116_1,k116_1b,b14,g17,g18,g19,w21,b23,b24]
   · cases h;simp -implicitDefEqProofs only [go_sem,E116_1,X116_1,k116_1b,b14,g17,g18,g19,w21,b23]
theorem e116_1 (a0:List ReCell)(a1:Int)(s:(Int×Int))(o:(Unit ⊕ Int))(h:loopP (m116_1b a0 a1) s=some o):evCL T 0 (.loop k116_1b) (E116_1 a0 a1 s).1 (E116_1 a0 a1 s).2=some (X116_1 a0 a1 o) :=
 loop_walk (E:=E116_1 a0 a1) (X:=X116_1 a0 a1) (by intro b;rcases b with b | b<;>(simp only [X116_1];nofun)) (b116_1 a0 a1) s o h
theorem e116 (a0:List ReCell)(a1:Int)(r:Int)(h:m116 a0 a1=some r):evFL T 116 [.ts .imm 2 (a0.map nReC),nI a1] []=some (nI r,[]):=by
 unfold m116 at h;rw [evFL_at fn116 (Nat.le_of_ble_eq_true rfl) rfl (.inr rfl) ⟨rfl,rfl⟩];(try simp -implicitDefEqProofs only [go_sem,i116,c116]);obtain ⟨o,q25,h⟩:=bnd_some h
 rcases o with ⟨⟩|v27
 · replace h:=selS_l h;have w26:=e116_1 a0 a1 (1,a1) (.inl ()) q25;simp only [E116_1,X116_1] at w26;(try simp -implicitDefEqProofs only [go_sem] at w26);cases h;simp -implicitDefEqProofs only [go_sem,i116,c116,w26]
 · replace h:=selS_r h;have w26:=e116_1 a0 a1 (1,a1) (.inr v27) q25;simp only [E116_1,X116_1] at w26;(try simp -implicitDefEqProofs only [go_sem] at w26);cases h;simp -implicitDefEqProofs only [go_sem,i116,c116,w26]
@[go_sem] theorem call141:CL 141 [[2],[0]]:=evCall0 fn141 rfl rfl rfl
noncomputable def X141_1 (a1_f:Nat)(a1_c:List AV)(a0:List ReCell)(p1:Int)(a1:(ReCell→Option Bool))(o:(Unit ⊕ Int)):Ex×Fr×St :=
 match o with
 | .inl o=>(.exit 0,frOf 19 (anyF),[])
 | .inr o=>(.ret,frOf 19 (upd anyF 4 (nI o)),[])
noncomputable def E141_1 (a1_f:Nat)(a1_c:List AV)(a0:List ReCell)(p1:Int)(a1:(ReCell→Option Bool))(s:Int):Fr×St:=(frOf 19 (upd (upd (upd (upd anyF 0 (.ts .imm 2 (a0.map nReC))) 1 (.fn a1_f a1_c)) 7 (nI p1)) 8 (nI s)),[])
theorem b141_1 (a0:List ReCell)(p1:Int)(a1:(ReCell→Option Bool))(a1_f:Nat)(a1_c:List AV)(a1_h:capOk a1_c∧∀y0 r,a1 y0=some r→clR a1_f a1_c [.agg [nI y0.kind,nI y0.n]] (.bool r))(s:Int)(o:Ctl Int (Unit ⊕ Int))(h:m141_1b a0 p1 a1 s=some o):evCL T 0 k141_1b (E141_1 a1_f a1_c a0 p1 a1 s).1 (E141_1 a1_f a1_c a0 p1 a1 s).2=some (ctlX (E141_1 a1_f a1_c a0 p1 a1) (X141_1 a1_f a1_c a0 p1 a1) o):=by
 unfold m141_1b at h
 revert h
 generalize s=s12;intro h
 rcases brx h with ⟨b13,h⟩|⟨b13,h⟩
 · cases h;simp -implicitDefEqProofs only [go_sem,E141_1,X141_1,k141_1b,a1_h.1,b13]
 · obtain ⟨x14,g16,g17,g18,h⟩:=bidx nReC h;obtain ⟨r19,w21,h⟩:=bcall (a1_h.2 x14) h;try simp -implicitDefEqProofs only [go_sem] at g17 g18 w21
   rcases brx h with ⟨b22,h⟩|⟨b22,h⟩
   · cases h;simp -implicitDefEqProofs only [go_sem,E141_1,X141_1,k141_1b,a1_h.1,b13,g16,g17,g18,w21.1,w21.2,b22]
   · cases h;simp -implicitDefEqProofs only [go_sem,E141_1,X141_1,k141_1b,a1_h.1,b13,g16,g17,g18,w21.1,w21.2,b22]
theorem e141_1 (a0:List ReCell)(p1:Int)(a1:(ReCell→Option Bool))(a1_f:Nat)(a1_c:List AV)(a1_h:capOk a1_c∧∀y0 r,a1 y0=some r→clR a1_f a1_c [.agg [nI y0.kind,nI y0.n]] (.bool r))(s:Int)(o:(Unit ⊕ Int))(h:loopP (m141_1b a0 p1 a1) s=some o):evCL T 0 (.loop k141_1b) (E141_1 a1_f a1_c a0 p1 a1 s).1 (E141_1 a1_f a1_c a0 p1 a1 s).2=some (X141_1 a1_f a1_c a0 p1 a1 o) :=
 loop_walk (E:=E141_1 a1_f a1_c a0 p1 a1) (X:=X141_1 a1_f a1_c a0 p1 a1) (by intro b;rcases b with b | b<;>(simp only [X141_1];nofun)) (b141_1 a0 p1 a1 a1_f a1_c a1_h) s o h
theorem e141 (a0:List ReCell)(a1:(ReCell→Option Bool))(a1_f:Nat)(a1_c:List AV)(a1_h:capOk a1_c∧∀y0 r,a1 y0=some r→clR a1_f a1_c [.agg [nI y0.kind,nI y0.n]] (.bool r))(r:Int)(h:m141 a0 a1=some r):evFL T 141 [.ts .imm 2 (a0.map nReC),.fn a1_f a1_c] []=some (nI r,[]):=by
 unfold m141 at h;rw [evFL_at fn141 (Nat.le_of_ble_eq_true rfl) rfl (.inr rfl) ⟨rfl,rfl⟩];(try simp -implicitDefEqProofs only [go_sem,i141,c141,a1_h.1]);obtain ⟨o,q23,h⟩:=bnd_some h
 rcases o with ⟨⟩|v25
 · replace h:=selS_l h;have w24:=e141_1 a0 (↑a0.length:Int) a1 a1_f a1_c a1_h 0 (.inl ()) q23;simp only [E141_1,X141_1] at w24;(try simp -implicitDefEqProofs only [go_sem] at w24);cases h;simp -implicitDefEqProofs only [go_sem,i141,c141,a1_h.1,w24]
 · replace h:=selS_r h;have w24:=e141_1 a0 (↑a0.length:Int) a1 a1_f a1_c a1_h 0 (.inr v25) q23;simp only [E141_1,X141_1] at w24;(try simp -implicitDefEqProofs only [go_sem] at w24);cases h;simp -implicitDefEqProofs only [go_sem,i141,c141,a1_h.1,w24]
@[go_sem] theorem call117:CL 117 [[2],[0]]:=evCall0 fn117 rfl rfl rfl
theorem e117 (a0:List ReCell)(a1:(ReCell→Option Bool))(a1_f:Nat)(a1_c:List AV)(a1_h:capOk a1_c∧∀y0 r,a1 y0=some r→clR a1_f a1_c [.agg [nI y0.kind,nI y0.n]] (.bool r))(r:Bool)(h:m117 a0 a1=some r):evFL T 117 [.ts .imm 2 (a0.map nReC),.fn a1_f a1_c] []=some (.bool r,[]):=by
 unfold m117 at h;rw [evFL_at fn117 (Nat.le_of_ble_eq_true rfl) rfl (.inr rfl) ⟨rfl,rfl⟩];obtain ⟨r3,w2,h⟩:=bcall (e141 a0 a1 a1_f a1_c a1_h) h;(try simp -implicitDefEqProofs only [go_sem] at w2);cases h;simp -implicitDefEqProofs only [go_sem,i117,c117,a1_h.1,w2]
@[go_sem] theorem call119:CL 119 [[0]]:=evCall0 fn119 rfl rfl rfl
theorem e119 (a0:Int)(r:Bool)(h:m119 a0=some r):evFL T 119 [nI a0] []=some (.bool r,[]):=by
 unfold m119 at h;rw [evFL_at fn119 (Nat.le_of_ble_eq_true rfl) rfl (.inr rfl) ⟨rfl,rfl⟩];obtain ⟨r3,w2,h⟩:=bcall (e87 a0 1 65535) h;(try simp -implicitDefEqProofs only [go_sem] at w2);cases h;simp -implicitDefEqProofs only [go_sem,i119,c119,w2]
theorem call118:CL 118 [[0,0]]:=evCall0 fn118 rfl rfl rfl
theorem callz118:CZ 118 [[0]] [[0,0]]:=evCallFz0 fn118 rfl rfl rfl
attribute [go_sem] call118 callz118
noncomputable def X118_1 (a0:ReCell)(o:Bool):Ex×Fr×St :=
 (.normal,frOf 22 (upd anyF 2 (.bool o)),[])
theorem e118_1 (a0:ReCell)(o:Bool)(h:m118_1 a0=some o):evCL T 0 k118_1 (frOf 22 (upd anyF 1 (.ptr 0 0 0))) [some ⟨.box,2,[[nI a0.kind,nI a0.n]]⟩]=some (X118_1 a0 o):=by
 unfold m118_1 at h
 rcases brx h with ⟨b1,h⟩|⟨b1,h⟩
 · cases h;simp -implicitDefEqProofs only [go_sem,X118_1,k118_1,b1]
 · obtain ⟨r4,w3,h⟩:=bcall (e119 a0.n) h;try simp -implicitDefEqProofs only [go_sem] at w3
   rcases brx h with ⟨b5,h⟩|⟨b5,h⟩
   · cases h;simp -implicitDefEqProofs only [go_sem,X118_1,k118_1,b1,w3,b5]
   · cases h;simp -implicitDefEqProofs only [go_sem,X118_1,k118_1,b1,w3,b5]
theorem e118 (a0:ReCell)(r:Bool)(h:m118 a0=some r):evFL T 118 [.agg [nI a0.kind,nI a0.n]] []=some (.bool r,[]):=by
 unfold m118 at h;rw [evFL_at fn118 (Nat.le_of_ble_eq_true rfl) rfl (.inr rfl) ⟨rfl,rfl⟩];obtain ⟨v8,w7,h⟩:=bcall (e118_1 a0) h;simp only [X118_1] at w7;(try simp -implicitDefEqProofs only [go_sem] at w7);cases h;simp -implicitDefEqProofs only [go_sem,i118,c118,w7]
end Go.Pi.YthidbgihjhkjaaaGreat.ApplyPolicy
