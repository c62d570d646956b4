/- no condition -/
import Derived.Test.YtichbkallidkcaaSppOfTabSppOf
import Derived.Test.YtichbkallidkcaaSppOfModSppOf
set_option linter.all false
namespace Go.Pi.Ytichbkallidkcaa.SppOf
open Go Go.Proofs Go.Pi
set_option maxRecDepth 100000
set_option linter.all false
@[go_sem] noncomputable def nInt (x:Int):List AV:=[.int .i64 x]
theorem sq_encInt (q:Ql)(x:Int):setQL q (nInt x)=nInt x:=by simp [nInt]
theorem sqm_encInt (q:Ql)(xs:List Int):setQLL q (xs.map nInt)=xs.map nInt:=by rw [setQLL_map];exact List.map_congr_left (fun x _=>sq_encInt q x)
theorem ow_encInt (x:Int):ownOnlyL (nInt x)=true:=by simp [nInt,ownOnlyL,ownOnly,ownLL_map]
theorem owm_encInt (xs:List Int):ownOnlyLL (xs.map nInt)=true:=ownLL_map _ ow_encInt xs
theorem fi_encInt (x:Int):fine.fineL (nInt x)=true:=by simp [nInt,fine.fineL,fine,fineLL_map]
theorem fim_encInt (xs:List Int):fine.fineLL (xs.map nInt)=true:=fineLL_map _ fi_encInt xs
theorem nu_encInt (x:Int):nude.nudeL (nInt x)=true:=by simp [nInt,nude.nudeL,nude,nudeLL_map]
theorem num_encInt (xs:List Int):nude.nudeLL (xs.map nInt)=true:=nudeLL_map _ nu_encInt xs
@[go_sem] theorem st_encInt (q:Ql)(xs:List Int):(xs.map nInt).map (fun x=>x.map (setTop q))=xs.map nInt:=by rw [List.map_map];rfl
attribute [simp] sqm_encInt ow_encInt owm_encInt fi_encInt fim_encInt nu_encInt num_encInt
attribute [go_sem] sqm_encInt owm_encInt fim_encInt num_encInt
@[go_sem] noncomputable def nRel (x:Rel):List AV:=[.int .i64 x.a,.int .i64 x.b,.int .i64 x.kind]
theorem sq_encRel (q:Ql)(x:Rel):setQL q (nRel x)=nRel x:=by simp [nRel]
theorem sqm_encRel (q:Ql)(xs:List Rel):setQLL q (xs.map nRel)=xs.map nRel:=by rw [setQLL_map];exact List.map_congr_left (fun x _=>sq_encRel q x)
theorem ow_encRel (x:Rel):ownOnlyL (nRel x)=true:=by simp [nRel,ownOnlyL,ownOnly,ownLL_map]
theorem owm_encRel (xs:List Rel):ownOnlyLL (xs.map nRel)=true:=ownLL_map _ ow_encRel xs
theorem fi_encRel (x:Rel):fine.fineL (nRel x)=true:=by simp [nRel,fine.fineL,fine,fineLL_map]
theorem fim_encRel (xs:List Rel):fine.fineLL (xs.map nRel)=true:=fineLL_map _ fi_encRel xs
theorem nu_encRel (x:Rel):nude.nudeL (nRel x)=true:=by simp [nRel,nude.nudeL,nude,nudeLL_map]
theorem num_encRel (xs:List Rel):nude.nudeLL (xs.map nRel)=true:=nudeLL_map _ nu_encRel xs
@[go_sem] theorem st_encRel (q:Ql)(xs:List Rel):(xs.map nRel).map (fun x=>x.map (setTop q))=xs.map nRel:=by rw [List.map_map];rfl
attribute [simp] sqm_encRel ow_encRel owm_encRel fi_encRel fim_encRel nu_encRel num_encRel
attribute [go_sem] sqm_encRel owm_encRel fim_encRel num_encRel
@[go_sem] noncomputable def nLRe (q:Ql)(x:List Rel):List AV:=[.ts q 3 (x.map nRel)]
theorem sq_encLRel (q q1:Ql)(x:List Rel):setQL q (nLRe q1 x)=nLRe q x:=by simp [nLRe,sq_encRel]
theorem sqm_encLRel (q q1:Ql)(xs:List (List Rel)):setQLL q (xs.map (nLRe q1))=xs.map (nLRe q):=by rw [setQLL_map];exact List.map_congr_left (fun x _=>sq_encLRel q q1 x)
theorem ow_encLRel (x:List Rel):ownOnlyL (nLRe .own x)=true:=by simp [nLRe,ownOnlyL,ownOnly,ownLL_map]
theorem owm_encLRel (xs:List (List Rel)):ownOnlyLL (xs.map (nLRe .own))=true:=ownLL_map _ ow_encLRel xs
theorem fi_encLRel (x:List Rel):fine.fineL (nLRe .own x)=true:=by simp [nLRe,fine.fineL,fine,fineLL_map]
theorem fim_encLRel (xs:List (List Rel)):fine.fineLL (xs.map (nLRe .own))=true:=fineLL_map _ fi_encLRel xs
theorem nu_encLRel (x:List Rel):nude.nudeL (nLRe .own x)=true:=by simp [nLRe,nude.nudeL,nude,nudeLL_map]
theorem num_encLRel (xs:List (List Rel)):nude.nudeLL (xs.map (nLRe .own))=true:=nudeLL_map _ nu_encLRel xs
theorem st_encLRel (q q1:Ql)(xs:List (List Rel)):(xs.map (nLRe q1)).map (fun x=>x.map (setTop q))=xs.map (nLRe q):=by rw [List.map_map];rfl
@[go_sem] theorem fii_encLRel (xs:List (List Rel)):fine.fineLL (xs.map (nLRe .imm))=true:=fineLL_map _ (fun x=>by simp [nLRe,fine.fineL,fine]) xs
attribute [go_sem] st_encLRel
attribute [simp] sqm_encLRel ow_encLRel owm_encLRel fi_encLRel fim_encLRel nu_encLRel num_encLRel
attribute [go_sem] sqm_encLRel owm_encLRel fim_encLRel num_encLRel
@[go_sem] noncomputable def nBoo (x:Bool):List AV:=[.bool x]
theorem sq_encBool (q:Ql)(x:Bool):setQL q (nBoo x)=nBoo x:=by simp [nBoo]
theorem sqm_encBool (q:Ql)(xs:List Bool):setQLL q (xs.map nBoo)=xs.map nBoo:=by rw [setQLL_map];exact List.map_congr_left (fun x _=>sq_encBool q x)
theorem ow_encBool (x:Bool):ownOnlyL (nBoo x)=true:=by simp [nBoo,ownOnlyL,ownOnly,ownLL_map]
theorem owm_encBool (xs:List Bool):ownOnlyLL (xs.map nBoo)=true:=ownLL_map _ ow_encBool xs
theorem fi_encBool (x:Bool):fine.fineL (nBoo x)=true:=by simp [nBoo,fine.fineL,fine,fineLL_map]
theorem fim_encBool (xs:List Bool):fine.fineLL (xs.map nBoo)=true:=fineLL_map _ fi_encBool xs
theorem nu_encBool (x:Bool):nude.nudeL (nBoo x)=true:=by simp [nBoo,nude.nudeL,nude,nudeLL_map]
theorem num_encBool (xs:List Bool):nude.nudeLL (xs.map nBoo)=true:=nudeLL_map _ nu_encBool xs
@[go_sem] theorem st_encBool (q:Ql)(xs:List Bool):(xs.map nBoo).map (fun x=>x.map (setTop q))=xs.map nBoo:=by rw [List.map_map];rfl
attribute [simp] sqm_encBool ow_encBool owm_encBool fi_encBool fim_encBool nu_encBool num_encBool
attribute [go_sem] sqm_encBool owm_encBool fim_encBool num_encBool
@[go_sem] noncomputable def nLIn (q:Ql)(x:List Int):List AV:=[.ts q 1 (x.map nInt)]
theorem sq_encLInt (q q1:Ql)(x:List Int):setQL q (nLIn q1 x)=nLIn q x:=by simp [nLIn,sq_encInt]
theorem sqm_encLInt (q q1:Ql)(xs:List (List Int)):setQLL q (xs.map (nLIn q1))=xs.map (nLIn q):=by rw [setQLL_map];exact List.map_congr_left (fun x _=>sq_encLInt q q1 x)
theorem ow_encLInt (x:List Int):ownOnlyL (nLIn .own x)=true:=by simp [nLIn,ownOnlyL,ownOnly,ownLL_map]
theorem owm_encLInt (xs:List (List Int)):ownOnlyLL (xs.map (nLIn .own))=true:=ownLL_map _ ow_encLInt xs
theorem fi_encLInt (x:List Int):fine.fineL (nLIn .own x)=true:=by simp [nLIn,fine.fineL,fine,fineLL_map]
theorem fim_encLInt (xs:List (List Int)):fine.fineLL (xs.map (nLIn .own))=true:=fineLL_map _ fi_encLInt xs
theorem nu_encLInt (x:List Int):nude.nudeL (nLIn .own x)=true:=by simp [nLIn,nude.nudeL,nude,nudeLL_map]
theorem num_encLInt (xs:List (List Int)):nude.nudeLL (xs.map (nLIn .own))=true:=nudeLL_map _ nu_encLInt xs
theorem st_encLInt (q q1:Ql)(xs:List (List Int)):(xs.map (nLIn q1)).map (fun x=>x.map (setTop q))=xs.map (nLIn q):=by rw [List.map_map];rfl
@[go_sem] theorem fii_encLInt (xs:List (List Int)):fine.fineLL (xs.map (nLIn .imm))=true:=fineLL_map _ (fun x=>by simp [nLIn,fine.fineL,fine]) xs
attribute [go_sem] st_encLInt
attribute [simp] sqm_encLInt ow_encLInt owm_encLInt fi_encLInt fim_encLInt nu_encLInt num_encLInt
attribute [go_sem] sqm_encLInt owm_encLInt fim_encLInt num_encLInt
@[go_sem] noncomputable def nLLI (q:Ql)(x:(List (List Int))):List AV:=[.ts q 1 (x.map (nLIn q))]
theorem sq_encLLInt (q q1:Ql)(x:(List (List Int))):setQL q (nLLI q1 x)=nLLI q x:=by simp [nLLI,sq_encLInt]
theorem sqm_encLLInt (q q1:Ql)(xs:List (List (List Int))):setQLL q (xs.map (nLLI q1))=xs.map (nLLI q):=by rw [setQLL_map];exact List.map_congr_left (fun x _=>sq_encLLInt q q1 x)
theorem ow_encLLInt (x:(List (List Int))):ownOnlyL (nLLI .own x)=true:=by simp [nLLI,ownOnlyL,ownOnly,ownLL_map]
theorem owm_encLLInt (xs:List (List (List Int))):ownOnlyLL (xs.map (nLLI .own))=true:=ownLL_map _ ow_encLLInt xs
theorem fi_encLLInt (x:(List (List Int))):fine.fineL (nLLI .own x)=true:=by simp [nLLI,fine.fineL,fine,fineLL_map]
theorem fim_encLLInt (xs:List (List (List Int))):fine.fineLL (xs.map (nLLI .own))=true:=fineLL_map _ fi_encLLInt xs
theorem nu_encLLInt (x:(List (List Int))):nude.nudeL (nLLI .own x)=true:=by simp [nLLI,nude.nudeL,nude,nudeLL_map]
theorem num_encLLInt (xs:List (List (List Int))):nude.nudeLL (xs.map (nLLI .own))=true:=nudeLL_map _ nu_encLLInt xs
@[go_sem] theorem fii_encLLInt (xs:List (List (List Int))):fine.fineLL (xs.map (nLLI .imm))=true:=fineLL_map _ (fun x=>by simp [nLLI,fine.fineL,fine]) xs
attribute [simp] sqm_encLLInt ow_encLLInt owm_encLLInt fi_encLLInt fim_encLLInt nu_encLLInt num_encLLInt
attribute [go_sem] sqm_encLLInt owm_encLLInt fim_encLLInt num_encLLInt
@[go_sem] noncomputable def nLLL (q:Ql)(x:(List (List (List Int)))):List AV:=[.ts q 1 (x.map (nLLI q))]
theorem sq_encLLLInt (q q1:Ql)(x:(List (List (List Int)))):setQL q (nLLL q1 x)=nLLL q x:=by simp [nLLL,sq_encLLInt]
theorem sqm_encLLLInt (q q1:Ql)(xs:List (List (List (List Int)))):setQLL q (xs.map (nLLL q1))=xs.map (nLLL q):=by rw [setQLL_map];exact List.map_congr_left (fun x _=>sq_encLLLInt q q1 x)
theorem ow_encLLLInt (x:(List (List (List Int)))):ownOnlyL (nLLL .own x)=true:=by simp [nLLL,ownOnlyL,ownOnly,ownLL_map]
theorem owm_encLLLInt (xs:List (List (List (List Int)))):ownOnlyLL (xs.map (nLLL .own))=true:=ownLL_map _ ow_encLLLInt xs
theorem fi_encLLLInt (x:(List (List (List Int)))):fine.fineL (nLLL .own x)=true:=by simp [nLLL,fine.fineL,fine,fineLL_map]
theorem fim_encLLLInt (xs:List (List (List (List Int)))):fine.fineLL (xs.map (nLLL .own))=true:=fineLL_map _ fi_encLLLInt xs
theorem nu_encLLLInt (x:(List (List (List Int)))):nude.nudeL (nLLL .own x)=true:=by simp [nLLL,nude.nudeL,nude,nudeLL_map]
theorem num_encLLLInt (xs:List (List (List (List Int)))):nude.nudeLL (xs.map (nLLL .own))=true:=nudeLL_map _ nu_encLLLInt xs
@[go_sem] theorem fii_encLLLInt (xs:List (List (List (List Int)))):fine.fineLL (xs.map (nLLL .imm))=true:=fineLL_map _ (fun x=>by simp [nLLL,fine.fineL,fine]) xs
attribute [simp] sqm_encLLLInt ow_encLLLInt owm_encLLLInt fi_encLLLInt fim_encLLLInt nu_encLLLInt num_encLLLInt
attribute [go_sem] sqm_encLLLInt owm_encLLLInt fim_encLLLInt num_encLLLInt
@[go_sem] noncomputable def nSpp (q:Ql)(x:Spp):List AV:=[.ts q 1 (x.ranked.map (nLLI q))]
theorem sq_encSpp (q q1:Ql)(x:Spp):setQL q (nSpp q1 x)=nSpp q x:=by simp [nSpp,sq_encLLInt]
theorem sqm_encSpp (q q1:Ql)(xs:List Spp):setQLL q (xs.map (nSpp q1))=xs.map (nSpp q):=by rw [setQLL_map];exact List.map_congr_left (fun x _=>sq_encSpp q q1 x)
theorem ow_encSpp (x:Spp):ownOnlyL (nSpp .own x)=true:=by simp [nSpp,ownOnlyL,ownOnly,ownLL_map]
theorem owm_encSpp (xs:List Spp):ownOnlyLL (xs.map (nSpp .own))=true:=ownLL_map _ ow_encSpp xs
theorem fi_encSpp (x:Spp):fine.fineL (nSpp .own x)=true:=by simp [nSpp,fine.fineL,fine,fineLL_map]
theorem fim_encSpp (xs:List Spp):fine.fineLL (xs.map (nSpp .own))=true:=fineLL_map _ fi_encSpp xs
theorem nu_encSpp (x:Spp):nude.nudeL (nSpp .own x)=true:=by simp [nSpp,nude.nudeL,nude,nudeLL_map]
theorem num_encSpp (xs:List Spp):nude.nudeLL (xs.map (nSpp .own))=true:=nudeLL_map _ nu_encSpp xs
@[go_sem] theorem fii_encSpp (xs:List Spp):fine.fineLL (xs.map (nSpp .imm))=true:=fineLL_map _ (fun x=>by simp [nSpp,fine.fineL,fine]) xs
attribute [simp] sqm_encSpp ow_encSpp owm_encSpp fi_encSpp fim_encSpp nu_encSpp num_encSpp
attribute [go_sem] sqm_encSpp owm_encSpp fim_encSpp num_encSpp
theorem call11:CL 11 [[3],[0]]:=evCall0 fn11 rfl rfl rfl
theorem calls11 (args:List AV)(S:St):evCall (T.at true) (evFL T) 11 args S=lendC (evFL T 11) S (lendAll S [[3],[0]] args):=evCall0 fns11 rfl rfl rfl args S
attribute [go_sem] call11 calls11
theorem e11 (a0:List Rel)(a1:Int)(r:Int)(h:m11 a0 a1=some r):evFL T 11 [.ts .imm 3 (a0.map nRel),nI a1] []=some (nI r,[]):=by
 unfold m11 at h;rw [evFL_at fn11 (Nat.le_of_ble_eq_true rfl) rfl (.inr rfl) ⟨rfl,rfl⟩];try simp -implicitDefEqProofs only [go_sem,i11,c11]
 rcases brx h with ⟨b1,h⟩|⟨b1,h⟩
 · cases h;simp -implicitDefEqProofs only [go_sem,i11,c11,b1]
 · cases h;simp -implicitDefEqProofs only [go_sem,i11,c11,b1]
@[go_sem] theorem call40:CL 40 [[0,0,0]]:=evCall0 fn40 rfl rfl rfl
theorem e40 (a0:Rel)(r:Rel)(h:m40 a0=some r):evFL T 40 [.agg (nRel a0)] []=some (.agg (nRel r),[]):=by
 unfold m40 at h;rw [evFL_at fn40 (Nat.le_of_ble_eq_true rfl) rfl (.inr rfl) ⟨rfl,rfl⟩];cases h;simp -implicitDefEqProofs only [go_sem,i40,c40]
theorem call13:CL 13 [[3]]:=evCall0 fn13 rfl rfl rfl
theorem calls13 (args:List AV)(S:St):evCall (T.at true) (evFL T) 13 args S=lendC (evFL T 13) S (lendAll S [[3]] args):=evCall0 fns13 rfl rfl rfl args S
attribute [go_sem] call13 calls13
noncomputable def X13_1 (a0:List Rel)(o:List Rel):Ex×Fr×St :=
 (.exit 0,frOf 23 (upd anyF 3 (.sl 0 0 o.length)),[some ⟨.arr,3,o.map nRel⟩])
noncomputable def E13_1 (a0:List Rel)(s:(Int×List Rel)):Fr×St:=(frOf 23 (upd (upd (upd anyF 0 (.ts .imm 3 (a0.map nRel))) 3 (.sl 0 0 s.2.length)) 4 (nI s.1)),[some ⟨.arr,3,s.2.map nRel⟩])
theorem b13_1 (a0:List Rel)(s:(Int×List Rel))(o:Ctl (Int×List Rel) (List Rel))(h:m13_1b a0 s=some o):evCL T 0 k13_1b (E13_1 a0 s).1 (E13_1 a0 s).2=some (ctlX (E13_1 a0) (X13_1 a0) o):=by
 unfold m13_1b at h;obtain ⟨s17,s18⟩:=s;replace h:=sel2_some h;try simp -implicitDefEqProofs only [go_sem,E13_1,X13_1,k13_1b]
 rcases brx h with ⟨b19,h⟩|⟨b19,h⟩
 · cases h;simp -implicitDefEqProofs only [go_sem,E13_1,X13_1,k13_1b,b19]
 · obtain ⟨x20,g22,g23,g24,h⟩:=bidx nRel h;obtain ⟨r27,w26,h⟩:=bcall (e40 x20) h;obtain ⟨x28,g30,g31,g32,h⟩:=bidx nRel h;(try simp -implicitDefEqProofs only [go_sem] at g23 g24 w26 g31 g32);cases h;simp -implicitDefEqProofs only [go_sem,E13_1,X13_1,k13_1b,b19,g22,g23,g24,w26,g30,g31,g32]
theorem e13_1 (a0:List Rel)(s:(Int×List Rel))(o:List Rel)(h:loopP (m13_1b a0) s=some o):evCL T 0 (.loop k13_1b) (E13_1 a0 s).1 (E13_1 a0 s).2=some (X13_1 a0 o) :=
 loop_walk (E:=E13_1 a0) (X:=X13_1 a0) (by intro b;(simp only [X13_1];nofun)) (b13_1 a0) s o h
theorem e13 (a0:List Rel)(r:List Rel)(h:m13 a0=some r):evFL T 13 [.ts .imm 3 (a0.map nRel)] []=some (.sl 0 0 r.length,[some ⟨.arr,3,r.map nRel⟩]):=by
 unfold m13 at h;rw [evFL_at fn13 (Nat.le_of_ble_eq_true rfl) rfl (.inr rfl) ⟨rfl,rfl⟩];obtain ⟨g1,h⟩:=ck_some h;obtain ⟨v35,w34,h⟩:=bcall (e13_1 a0 (0,List.replicate a0.length (⟨0,0,0⟩:Rel))) h;(try simp -implicitDefEqProofs only [go_sem] at g1);simp only [E13_1,X13_1] at w34;(try simp -implicitDefEqProofs only [go_sem] at w34);cases h;simp -implicitDefEqProofs only [go_sem,i13,c13,g1,w34]
@[go_sem] theorem call39:CL 39 [[0],[0],[0]]:=evCall0 fn39 rfl rfl rfl
noncomputable def X39_1 (a0:Int)(a1:Int)(a2:Int)(o:Bool):Ex×Fr×St :=
 (.normal,frOf 15 (upd anyF 6 (.bool o)),[])
theorem e39_1 (a0:Int)(a1:Int)(a2:Int)(o:Bool)(h:m39_1 a0 a1 a2=some o):evCL T 0 k39_1 (frOf 15 (upd (upd (upd anyF 0 (nI a0)) 1 (nI a1)) 2 (nI a2))) []=some (X39_1 a0 a1 a2 o):=by
 unfold m39_1 at h;try simp -implicitDefEqProofs only [go_sem,X39_1,k39_1]
 rcases brx h with ⟨b1,h⟩|⟨b1,h⟩
 · cases h;simp -implicitDefEqProofs only [go_sem,X39_1,k39_1,b1]
 · cases h;simp -implicitDefEqProofs only [go_sem,X39_1,k39_1,b1]
theorem e39 (a0:Int)(a1:Int)(a2:Int)(r:Bool)(h:m39 a0 a1 a2=some r):evFL T 39 [nI a0,nI a1,nI a2] []=some (.bool r,[]):=by
 unfold m39 at h;rw [evFL_at fn39 (Nat.le_of_ble_eq_true rfl) rfl (.inr rfl) ⟨rfl,rfl⟩];obtain ⟨v4,w3,h⟩:=bcall (e39_1 a0 a1 a2) h;simp only [X39_1] at w3;(try simp -implicitDefEqProofs only [go_sem] at w3);cases h;simp -implicitDefEqProofs only [go_sem,i39,c39,w3]
@[go_sem] theorem call12:CL 12 [[0],[3]]:=evCall0 fn12 rfl rfl rfl
noncomputable def X12_1 (a0:Int)(a1:List Rel)(o:Bool):Ex×Fr×St :=
 (.normal,frOf 68 (upd (upd (upd anyF 0 (nI a0)) 1 (.ts .imm 3 (a1.map nRel))) 16 (.bool o)),[])
theorem e12_1 (a0:Int)(a1:List Rel)(o:Bool)(h:m12_1 a0 a1=some o):evCL T 0 k12_1 (frOf 68 (upd (upd anyF 0 (nI a0)) 1 (.ts .imm 3 (a1.map nRel)))) []=some (X12_1 a0 a1 o):=by
 unfold m12_1 at h;obtain ⟨r3,w2,h⟩:=bcall (e39 a0 1 5) h;(try simp -implicitDefEqProofs only [go_sem] at w2);try simp -implicitDefEqProofs only [go_sem,X12_1,k12_1,w2]
 rcases brx h with ⟨b4,h⟩|⟨b4,h⟩
 · cases h;simp -implicitDefEqProofs only [go_sem,X12_1,k12_1,w2,b4]
 · cases h;simp -implicitDefEqProofs only [go_sem,X12_1,k12_1,w2,b4]
noncomputable def X12_7 (a0:Int)(a1:List Rel)(s54:Int)(p9:Int)(x56:Rel)(o:Bool):Ex×Fr×St :=
 (.normal,frOf 68 (upd (upd (upd (upd (upd (upd (upd (upd anyF 0 (nI a0)) 1 (.ts .imm 3 (a1.map nRel))) 5 (nI s54)) 6 (.ptr 0 0 0)) 17 (.ts .imm 3 (a1.map nRel))) 18 (nI p9)) 19 (nI s54)) 45 (.bool o)),[some ⟨.box,3,[(nRel x56)]⟩])
theorem e12_7 (a0:Int)(a1:List Rel)(s54:Int)(p9:Int)(x56:Rel)(o:Bool)(h:m12_7 a0 x56=some o):evCL T 0 k12_7 (frOf 68 (upd (upd (upd (upd (upd (upd (upd anyF 0 (nI a0)) 1 (.ts .imm 3 (a1.map nRel))) 5 (nI s54)) 6 (.ptr 0 0 0)) 17 (.ts .imm 3 (a1.map nRel))) 18 (nI p9)) 19 (nI s54))) [some ⟨.box,3,[(nRel x56)]⟩]=some (X12_7 a0 a1 s54 p9 x56 o):=by
 unfold m12_7 at h;try simp -implicitDefEqProofs only [go_sem,X12_7,k12_7]
 rcases brx h with ⟨b61,h⟩|⟨b61,h⟩
 · try simp -implicitDefEqProofs only [go_sem,X12_7,k12_7,b61]
   rcases brx h with ⟨b62,h⟩|⟨b62,h⟩
   · try simp -implicitDefEqProofs only [go_sem,X12_7,k12_7,b61,b62]
     rcases brx h with ⟨b63,h⟩|⟨b63,h⟩
     · obtain ⟨r66,w65,h⟩:=bcall (e39 x56.kind 1 3) h;(try simp -implicitDefEqProofs only [go_sem] at w65);cases h;simp -implicitDefEqProofs only [go_sem,X12_7,k12_7,b61,b62,b63,w65]
     · cases h;simp -implicitDefEqProofs only [go_sem,X12_7,k12_7,b61,b62,b63]
   · cases h;simp -implicitDefEqProofs only [go_sem,X12_7,k12_7,b61,b62]
 · cases h;simp -implicitDefEqProofs only [go_sem,X12_7,k12_7,b61]
noncomputable def X12_10 (a0:Int)(a1:List Rel)(p9:Int)(s54:Int)(p72:List Rel)(p73:Int)(s85:Int)(x56:Rel)(x87:Rel)(o:Bool):Ex×Fr×St :=
 (.normal,frOf 68 (upd (upd (upd (upd (upd (upd (upd (upd (upd (upd anyF 0 (nI a0)) 1 (.ts .imm 3 (a1.map nRel))) 6 (.ptr 0 0 0)) 17 (.ts .imm 3 (a1.map nRel))) 18 (nI p9)) 19 (nI s54)) 48 (.ts .imm 3 (p72.map nRel))) 49 (nI p73)) 50 (nI s85)) 65 (.bool o)),[some ⟨.box,3,[(nRel x56)]⟩])
theorem e12_10 (a0:Int)(a1:List Rel)(p9:Int)(s54:Int)(p72:List Rel)(p73:Int)(s85:Int)(x56:Rel)(x87:Rel)(o:Bool)(h:m12_10 x56 x87=some o):evCL T 0 k12_10 (frOf 68 (upd (upd (upd (upd (upd (upd (upd (upd (upd (upd anyF 0 (nI a0)) 1 (.ts .imm 3 (a1.map nRel))) 6 (.ptr 0 0 0)) 8 (.ptr 1 0 0)) 17 (.ts .imm 3 (a1.map nRel))) 18 (nI p9)) 19 (nI s54)) 48 (.ts .imm 3 (p72.map nRel))) 49 (nI p73)) 50 (nI s85))) [some ⟨.box,3,[(nRel x56)]⟩,some ⟨.box,3,[(nRel x87)]⟩]=some (X12_10 a0 a1 p9 s54 p72 p73 s85 x56 x87 o):=by
 unfold m12_10 at h;try simp -implicitDefEqProofs only [go_sem,X12_10,k12_10]
 rcases brx h with ⟨b92,h⟩|⟨b92,h⟩
 · cases h;simp -implicitDefEqProofs only [go_sem,X12_10,k12_10,b92]
 · cases h;simp -implicitDefEqProofs only [go_sem,X12_10,k12_10,b92]
noncomputable def X12_8 (a0:Int)(a1:List Rel)(p9:Int)(s54:Int)(p72:List Rel)(p73:Int)(x56:Rel)(o:(Unit ⊕ Unit)):Ex×Fr×St :=
 match o with
 | .inl o=>(.exit 2,frOf 68 (upd (upd (upd (upd (upd anyF 0 (nI a0)) 1 (.ts .imm 3 (a1.map nRel))) 17 (.ts .imm 3 (a1.map nRel))) 18 (nI p9)) 19 (nI s54)),[])
 | .inr o=>(.ret,frOf 68 (upd anyF 4 (.bool false)),[])
noncomputable def E12_8 (a0:Int)(a1:List Rel)(p9:Int)(s54:Int)(p72:List Rel)(p73:Int)(x56:Rel)(s:Int):Fr×St:=(frOf 68 (upd (upd (upd (upd (upd (upd (upd (upd (upd anyF 0 (nI a0)) 1 (.ts .imm 3 (a1.map nRel))) 6 (.ptr 0 0 0)) 17 (.ts .imm 3 (a1.map nRel))) 18 (nI p9)) 19 (nI s54)) 48 (.ts .imm 3 (p72.map nRel))) 49 (nI p73)) 50 (nI s)),[some ⟨.box,3,[(nRel x56)]⟩])
theorem b12_8 (a0:Int)(a1:List Rel)(p9:Int)(s54:Int)(p72:List Rel)(p73:Int)(x56:Rel)(s:Int)(o:Ctl Int (Unit ⊕ Unit))(h:m12_8b p72 p73 x56 s=some o):evCL T 0 k12_8b (E12_8 a0 a1 p9 s54 p72 p73 x56 s).1 (E12_8 a0 a1 p9 s54 p72 p73 x56 s).2=some (ctlX (E12_8 a0 a1 p9 s54 p72 p73 x56) (X12_8 a0 a1 p9 s54 p72 p73 x56) o):=by
 unfold m12_8b at h
 revert h
 generalize s=s85;intro h;try simp -implicitDefEqProofs only [go_sem,E12_8,X12_8,k12_8b]
 rcases brx h with ⟨b86,h⟩|⟨b86,h⟩
 · cases h;simp -implicitDefEqProofs only [go_sem,E12_8,X12_8,k12_8b,b86]
 · obtain ⟨x87,g89,g90,g91,h⟩:=bidx nRel h;obtain ⟨v95,w94,h⟩:=bcall (e12_10 a0 a1 p9 s54 p72 p73 s85 x56 x87) h;(try simp -implicitDefEqProofs only [go_sem] at g90 g91);simp only [X12_10] at w94;(try simp -implicitDefEqProofs only [go_sem] at w94);try simp -implicitDefEqProofs only [go_sem,E12_8,X12_8,k12_8b,b86,g89,g90,g91,w94]
   rcases brx h with ⟨b96,h⟩|⟨b96,h⟩
   · cases h;simp -implicitDefEqProofs only [go_sem,E12_8,X12_8,k12_8b,b86,g89,g90,g91,w94,b96]
   · cases h;simp -implicitDefEqProofs only [go_sem,E12_8,X12_8,k12_8b,b86,g89,g90,g91,w94,b96]
theorem e12_8 (a0:Int)(a1:List Rel)(p9:Int)(s54:Int)(p72:List Rel)(p73:Int)(x56:Rel)(s:Int)(o:(Unit ⊕ Unit))(h:loopP (m12_8b p72 p73 x56) s=some o):evCL T 0 (.loop k12_8b) (E12_8 a0 a1 p9 s54 p72 p73 x56 s).1 (E12_8 a0 a1 p9 s54 p72 p73 x56 s).2=some (X12_8 a0 a1 p9 s54 p72 p73 x56 o) :=
 loop_walk (E:=E12_8 a0 a1 p9 s54 p72 p73 x56) (X:=X12_8 a0 a1 p9 s54 p72 p73 x56) (by intro b;rcases b with b | b<;>(simp only [X12_8];nofun)) (b12_8 a0 a1 p9 s54 p72 p73 x56) s o h
noncomputable def X12_2 (a0:Int)(a1:List Rel)(p9:Int)(o:(Unit ⊕ Unit)):Ex×Fr×St :=
 match o with
 | .inl o=>(.exit 0,frOf 68 (anyF),[])
 | .inr o=>(.ret,frOf 68 (upd anyF 4 (.bool false)),[])
noncomputable def E12_2 (a0:Int)(a1:List Rel)(p9:Int)(s:Int):Fr×St:=(frOf 68 (upd (upd (upd (upd (upd anyF 0 (nI a0)) 1 (.ts .imm 3 (a1.map nRel))) 17 (.ts .imm 3 (a1.map nRel))) 18 (nI p9)) 19 (nI s)),[])
theorem b12_2 (a0:Int)(a1:List Rel)(p9:Int)(s:Int)(o:Ctl Int (Unit ⊕ Unit))(h:m12_2b a0 a1 p9 s=some o):evCL T 0 k12_2b (E12_2 a0 a1 p9 s).1 (E12_2 a0 a1 p9 s).2=some (ctlX (E12_2 a0 a1 p9) (X12_2 a0 a1 p9) o):=by
 unfold m12_2b at h
 revert h
 generalize s=s54;intro h;try simp -implicitDefEqProofs only [go_sem,E12_2,X12_2,k12_2b]
 rcases brx h with ⟨b55,h⟩|⟨b55,h⟩
 · cases h;simp -implicitDefEqProofs only [go_sem,E12_2,X12_2,k12_2b,b55]
 · obtain ⟨x56,g58,g59,g60,h⟩:=bidx nRel h;obtain ⟨v69,w68,h⟩:=bcall (e12_7 a0 a1 s54 p9 x56) h;(try simp -implicitDefEqProofs only [go_sem] at g59 g60);simp only [X12_7] at w68;(try simp -implicitDefEqProofs only [go_sem] at w68);try simp -implicitDefEqProofs only [go_sem,E12_2,X12_2,k12_2b,b55,g58,g59,g60,w68]
   rcases brx h with ⟨b70,h⟩|⟨b70,h⟩
   · obtain ⟨g71,h⟩:=ck_some h;(try simp -implicitDefEqProofs only [go_sem] at g71);(try simp -implicitDefEqProofs only [go_sem,E12_2,X12_2,k12_2b,b55,g58,g59,g60,w68,b70,g71]);obtain ⟨o,q97,h⟩:=bnd_some h
     rcases o with ⟨⟩|⟨⟩
     · replace h:=selS_l h;have w98:=e12_8 a0 a1 p9 s54 (a1.take s54.toNat) (↑((a1.take s54.toNat).length):Int) x56 0 (.inl ()) q97;simp only [E12_8,X12_8] at w98;(try simp -implicitDefEqProofs only [go_sem] at w98);cases h;simp -implicitDefEqProofs only [go_sem,E12_2,X12_2,k12_2b,b55,g58,g59,g60,w68,b70,g71,w98]
     · replace h:=selS_r h;have w98:=e12_8 a0 a1 p9 s54 (a1.take s54.toNat) (↑((a1.take s54.toNat).length):Int) x56 0 (.inr ()) q97;simp only [E12_8,X12_8] at w98;(try simp -implicitDefEqProofs only [go_sem] at w98);cases h;simp -implicitDefEqProofs only [go_sem,E12_2,X12_2,k12_2b,b55,g58,g59,g60,w68,b70,g71,w98]
   · cases h;simp -implicitDefEqProofs only [go_sem,E12_2,X12_2,k12_2b,b55,g58,g59,g60,w68,b70]
theorem e12_2 (a0:Int)(a1:List Rel)(p9:Int)(s:Int)(o:(Unit ⊕ Unit))(h:loopP (m12_2b a0 a1 p9) s=some o):evCL T 0 (.loop k12_2b) (E12_2 a0 a1 p9 s).1 (E12_2 a0 a1 p9 s).2=some (X12_2 a0 a1 p9 o) :=
 loop_walk (E:=E12_2 a0 a1 p9) (X:=X12_2 a0 a1 p9) (by intro b;rcases b with b | b<;>(simp only [X12_2];nofun)) (b12_2 a0 a1 p9) s o h
theorem e12 (a0:Int)(a1:List Rel)(r:Bool)(h:m12 a0 a1=some r):evFL T 12 [nI a0,.ts .imm 3 (a1.map nRel)] []=some (.bool r,[]):=by
 unfold m12 at h;rw [evFL_at fn12 (Nat.le_of_ble_eq_true rfl) rfl (.inr rfl) ⟨rfl,rfl⟩];obtain ⟨v7,w6,h⟩:=bcall (e12_1 a0 a1) h;simp only [X12_1] at w6;(try simp -implicitDefEqProofs only [go_sem] at w6);try simp -implicitDefEqProofs only [go_sem,i12,c12,w6]
 rcases brx h with ⟨b8,h⟩|⟨b8,h⟩
 · (try simp -implicitDefEqProofs only [go_sem,i12,c12,w6,b8]);obtain ⟨o,q99,h⟩:=bnd_some h
   rcases o with ⟨⟩|⟨⟩
   · replace h:=selS_l h;have w100:=e12_2 a0 a1 (↑a1.length:Int) 0 (.inl ()) q99;simp only [E12_2,X12_2] at w100;(try simp -implicitDefEqProofs only [go_sem] at w100);cases h;simp -implicitDefEqProofs only [go_sem,i12,c12,w6,b8,w100]
   · replace h:=selS_r h;have w100:=e12_2 a0 a1 (↑a1.length:Int) 0 (.inr ()) q99;simp only [E12_2,X12_2] at w100;(try simp -implicitDefEqProofs only [go_sem] at w100);cases h;simp -implicitDefEqProofs only [go_sem,i12,c12,w6,b8,w100]
 · cases h;simp -implicitDefEqProofs only [go_sem,i12,c12,w6,b8]
theorem call45:CL 45 [[3],[0],[0]]:=evCall0 fn45 rfl rfl rfl
theorem callz45:CZ 45 [[0]] [[3],[0],[0]]:=evCallFz0 fn45 rfl rfl rfl
attribute [go_sem] call45 callz45
noncomputable def X45_4 (a1:Int)(a2:Int)(a0:List Rel)(p1:Int)(s18:Int)(x20:Rel)(o:Bool):Ex×Fr×St :=
 (.normal,frOf 41 (upd (upd (upd (upd (upd (upd (upd anyF 1 (nI a1)) 2 (nI a2)) 8 (.ptr 0 0 0)) 9 (.ts .imm 3 (a0.map nRel))) 10 (nI p1)) 11 (nI s18)) 24 (.bool o)),[some ⟨.box,3,[(nRel x20)]⟩])
theorem e45_4 (a1:Int)(a2:Int)(a0:List Rel)(p1:Int)(s18:Int)(x20:Rel)(o:Bool)(h:m45_4 a1 a2 x20=some o):evCL T 0 k45_4 (frOf 41 (upd (upd (upd (upd (upd (upd anyF 1 (nI a1)) 2 (nI a2)) 8 (.ptr 0 0 0)) 9 (.ts .imm 3 (a0.map nRel))) 10 (nI p1)) 11 (nI s18))) [some ⟨.box,3,[(nRel x20)]⟩]=some (X45_4 a1 a2 a0 p1 s18 x20 o):=by
 unfold m45_4 at h;try simp -implicitDefEqProofs only [go_sem,X45_4,k45_4]
 rcases brx h with ⟨b25,h⟩|⟨b25,h⟩
 · cases h;simp -implicitDefEqProofs only [go_sem,X45_4,k45_4,b25]
 · cases h;simp -implicitDefEqProofs only [go_sem,X45_4,k45_4,b25]
noncomputable def X45_5 (a1:Int)(a2:Int)(a0:List Rel)(p1:Int)(s18:Int)(x20:Rel)(o:Bool):Ex×Fr×St :=
 (.normal,frOf 41 (upd (upd (upd (upd (upd (upd (upd anyF 1 (nI a1)) 2 (nI a2)) 8 (.ptr 0 0 0)) 9 (.ts .imm 3 (a0.map nRel))) 10 (nI p1)) 11 (nI s18)) 36 (.bool o)),[some ⟨.box,3,[(nRel x20)]⟩])
theorem e45_5 (a1:Int)(a2:Int)(a0:List Rel)(p1:Int)(s18:Int)(x20:Rel)(o:Bool)(h:m45_5 a1 a2 x20=some o):evCL T 0 k45_5 (frOf 41 (upd (upd (upd (upd (upd (upd anyF 1 (nI a1)) 2 (nI a2)) 8 (.ptr 0 0 0)) 9 (.ts .imm 3 (a0.map nRel))) 10 (nI p1)) 11 (nI s18))) [some ⟨.box,3,[(nRel x20)]⟩]=some (X45_5 a1 a2 a0 p1 s18 x20 o):=by
 unfold m45_5 at h;try simp -implicitDefEqProofs only [go_sem,X45_5,k45_5]
 rcases brx h with ⟨b30,h⟩|⟨b30,h⟩
 · cases h;simp -implicitDefEqProofs only [go_sem,X45_5,k45_5,b30]
 · cases h;simp -implicitDefEqProofs only [go_sem,X45_5,k45_5,b30]
noncomputable def X45_1 (a1:Int)(a2:Int)(a0:List Rel)(p1:Int)(o:(Unit ⊕ Int)):Ex×Fr×St :=
 match o with
 | .inl o=>(.exit 0,frOf 41 (anyF),[])
 | .inr o=>(.ret,frOf 41 (upd anyF 6 (nI o)),[])
noncomputable def E45_1 (a1:Int)(a2:Int)(a0:List Rel)(p1:Int)(s:Int):Fr×St:=(frOf 41 (upd (upd (upd (upd (upd anyF 1 (nI a1)) 2 (nI a2)) 9 (.ts .imm 3 (a0.map nRel))) 10 (nI p1)) 11 (nI s)),[])
theorem b45_1 (a1:Int)(a2:Int)(a0:List Rel)(p1:Int)(s:Int)(o:Ctl Int (Unit ⊕ Int))(h:m45_1b a1 a2 a0 p1 s=some o):evCL T 0 k45_1b (E45_1 a1 a2 a0 p1 s).1 (E45_1 a1 a2 a0 p1 s).2=some (ctlX (E45_1 a1 a2 a0 p1) (X45_1 a1 a2 a0 p1) o):=by
 unfold m45_1b at h
 revert h
 generalize s=s18;intro h;try simp -implicitDefEqProofs only [go_sem,E45_1,X45_1,k45_1b]
 rcases brx h with ⟨b19,h⟩|⟨b19,h⟩
 · cases h;simp -implicitDefEqProofs only [go_sem,E45_1,X45_1,k45_1b,b19]
 · obtain ⟨x20,g22,g23,g24,h⟩:=bidx nRel h;obtain ⟨v28,w27,h⟩:=bcall (e45_4 a1 a2 a0 p1 s18 x20) h;(try simp -implicitDefEqProofs only [go_sem] at g23 g24);simp only [X45_4] at w27;(try simp -implicitDefEqProofs only [go_sem] at w27);try simp -implicitDefEqProofs only [go_sem,E45_1,X45_1,k45_1b,b19,g22,g23,g24,w27]
   rcases brx h with ⟨b29,h⟩|⟨b29,h⟩
   · obtain ⟨v33,w32,h⟩:=bcall (e45_5 a1 a2 a0 p1 s18 x20) h;simp only [X45_5] at w32;(try simp -implicitDefEqProofs only [go_sem] at w32);try simp -implicitDefEqProofs only [go_sem,E45_1,X45_1,k45_1b,b19,g22,g23,g24,w27,b29,w32]
     rcases brx h with ⟨b34,h⟩|⟨b34,h⟩
     · cases h;simp -implicitDefEqProofs only [go_sem,E45_1,X45_1,k45_1b,b19,g22,g23,g24,w27,b29,w32,b34]
     · cases h;simp -implicitDefEqProofs only [go_sem,E45_1,X45_1,k45_1b,b19,g22,g23,g24,w27,b29,w32,b34]
   · cases h;simp -implicitDefEqProofs only [go_sem,E45_1,X45_1,k45_1b,b19,g22,g23,g24,w27,b29]
theorem e45_1 (a1:Int)(a2:Int)(a0:List Rel)(p1:Int)(s:Int)(o:(Unit ⊕ Int))(h:loopP (m45_1b a1 a2 a0 p1) s=some o):evCL T 0 (.loop k45_1b) (E45_1 a1 a2 a0 p1 s).1 (E45_1 a1 a2 a0 p1 s).2=some (X45_1 a1 a2 a0 p1 o) :=
 loop_walk (E:=E45_1 a1 a2 a0 p1) (X:=X45_1 a1 a2 a0 p1) (by intro b;rcases b with b | b<;>(simp only [X45_1];nofun)) (b45_1 a1 a2 a0 p1) s o h
theorem e45 (a0:List Rel)(a1:Int)(a2:Int)(r:Int)(h:m45 a0 a1 a2=some r):evFL T 45 [.ts .imm 3 (a0.map nRel),nI a1,nI a2] []=some (nI r,[]):=by
 unfold m45 at h;rw [evFL_at fn45 (Nat.le_of_ble_eq_true rfl) rfl (.inr rfl) ⟨rfl,rfl⟩];(try simp -implicitDefEqProofs only [go_sem,i45,c45]);obtain ⟨o,q35,h⟩:=bnd_some h
 rcases o with ⟨⟩|v37
 · replace h:=selS_l h;have w36:=e45_1 a1 a2 a0 (↑a0.length:Int) 0 (.inl ()) q35;simp only [E45_1,X45_1] at w36;(try simp -implicitDefEqProofs only [go_sem] at w36);cases h;simp -implicitDefEqProofs only [go_sem,i45,c45,w36]
 · replace h:=selS_r h;have w36:=e45_1 a1 a2 a0 (↑a0.length:Int) 0 (.inr v37) q35;simp only [E45_1,X45_1] at w36;(try simp -implicitDefEqProofs only [go_sem] at w36);cases h;simp -implicitDefEqProofs only [go_sem,i45,c45,w36]
@[go_sem] theorem call54:CL 54 [[3],[1]]:=evCall0 fn54 rfl rfl rfl
noncomputable def X54_4 (a0:List Rel)(a1:List Int)(s20:Bool)(s21:Int)(r35:Int)(o:(Bool×Bool)):Ex×Fr×St :=
 (.normal,frOf 35 (upd (upd (upd (upd (upd (upd anyF 0 (.ts .imm 3 (a0.map nRel))) 1 (.ts .imm 1 (a1.map nInt))) 5 (.bool o.1)) 6 (nI s21)) 7 (nI r35)) 29 (.bool o.2)),[])
theorem e54_4 (a0:List Rel)(a1:List Int)(s20:Bool)(s21:Int)(r35:Int)(o:(Bool×Bool))(h:m54_4 s20 r35=some o):evCL T 0 k54_4 (frOf 35 (upd (upd (upd (upd (upd anyF 0 (.ts .imm 3 (a0.map nRel))) 1 (.ts .imm 1 (a1.map nInt))) 5 (.bool s20)) 6 (nI s21)) 7 (nI r35))) []=some (X54_4 a0 a1 s20 s21 r35 o):=by
 unfold m54_4 at h;try simp -implicitDefEqProofs only [go_sem,X54_4,k54_4]
 rcases brx h with ⟨b36,h⟩|⟨b36,h⟩
 · cases h;simp -implicitDefEqProofs only [go_sem,X54_4,k54_4,b36]
 · cases h;simp -implicitDefEqProofs only [go_sem,X54_4,k54_4,b36]
noncomputable def X54_5 (a0:List Rel)(a1:List Int)(v39:Bool)(s21:Int)(r35:Int)(o:Bool):Ex×Fr×St :=
 (.normal,frOf 35 (upd (upd (upd (upd anyF 0 (.ts .imm 3 (a0.map nRel))) 1 (.ts .imm 1 (a1.map nInt))) 5 (.bool o)) 6 (nI s21)),[])
theorem e54_5 (a0:List Rel)(a1:List Int)(v39:Bool)(s21:Int)(r35:Int)(o:Bool)(h:m54_5 v39 r35=some o):evCL T 0 k54_5 (frOf 35 (upd (upd (upd (upd (upd anyF 0 (.ts .imm 3 (a0.map nRel))) 1 (.ts .imm 1 (a1.map nInt))) 5 (.bool v39)) 6 (nI s21)) 7 (nI r35))) []=some (X54_5 a0 a1 v39 s21 r35 o):=by
 unfold m54_5 at h;try simp -implicitDefEqProofs only [go_sem,X54_5,k54_5]
 rcases brx h with ⟨b42,h⟩|⟨b42,h⟩
 · cases h;simp -implicitDefEqProofs only [go_sem,X54_5,k54_5,b42]
 · cases h;simp -implicitDefEqProofs only [go_sem,X54_5,k54_5,b42]
noncomputable def X54_1 (a0:List Rel)(a1:List Int)(o:(Unit ⊕ Unit)):Ex×Fr×St :=
 match o with
 | .inl o=>(.exit 0,frOf 35 (anyF),[])
 | .inr o=>(.ret,frOf 35 (upd anyF 4 (.bool false)),[])
noncomputable def E54_1 (a0:List Rel)(a1:List Int)(s:(Bool×Int)):Fr×St:=(frOf 35 (upd (upd (upd (upd anyF 0 (.ts .imm 3 (a0.map nRel))) 1 (.ts .imm 1 (a1.map nInt))) 5 (.bool s.1)) 6 (nI s.2)),[])
theorem b54_1 (a0:List Rel)(a1:List Int)(s:(Bool×Int))(o:Ctl (Bool×Int) (Unit ⊕ Unit))(h:m54_1b a0 a1 s=some o):evCL T 0 k54_1b (E54_1 a0 a1 s).1 (E54_1 a0 a1 s).2=some (ctlX (E54_1 a0 a1) (X54_1 a0 a1) o):=by
 unfold m54_1b at h;obtain ⟨s20,s21⟩:=s;replace h:=sel2_some h;try simp -implicitDefEqProofs only [go_sem,E54_1,X54_1,k54_1b]
 rcases brx h with ⟨b22,h⟩|⟨b22,h⟩
 · cases h;simp -implicitDefEqProofs only [go_sem,E54_1,X54_1,k54_1b,b22]
 · obtain ⟨x23,g25,g26,g27,h⟩:=bidx nInt h;obtain ⟨x28,g30,g31,g32,h⟩:=bidx nInt h;obtain ⟨r35,w34,h⟩:=bcall (e45 a0 x23 x28) h;obtain ⟨⟨v39,v40⟩,w38,h⟩:=bcall (e54_4 a0 a1 s20 s21 r35) h;replace h:=sel2_some h;(try simp -implicitDefEqProofs only [go_sem] at g26 g27 g31 g32 w34);simp only [X54_4] at w38;(try simp -implicitDefEqProofs only [go_sem] at w38);try simp -implicitDefEqProofs only [go_sem,E54_1,X54_1,k54_1b,b22,g25,g26,g27,g30,g31,g32,w34,w38]
   rcases brx h with ⟨b41,h⟩|⟨b41,h⟩
   · obtain ⟨v45,w44,h⟩:=bcall (e54_5 a0 a1 v39 s21 r35) h;simp only [X54_5] at w44;(try simp -implicitDefEqProofs only [go_sem] at w44);cases h;simp -implicitDefEqProofs only [go_sem,E54_1,X54_1,k54_1b,b22,g25,g26,g27,g30,g31,g32,w34,w38,b41,w44]
   · cases h;simp -implicitDefEqProofs only [go_sem,E54_1,X54_1,k54_1b,b22,g25,g26,g27,g30,g31,g32,w34,w38,b41]
theorem e54_1 (a0:List Rel)(a1:List Int)(s:(Bool×Int))(o:(Unit ⊕ Unit))(h:loopP (m54_1b a0 a1) s=some o):evCL T 0 (.loop k54_1b) (E54_1 a0 a1 s).1 (E54_1 a0 a1 s).2=some (X54_1 a0 a1 o) :=
 loop_walk (E:=E54_1 a0 a1) (X:=X54_1 a0 a1) (by intro b;rcases b with b | b<;>(simp only [X54_1];nofun)) (b54_1 a0 a1) s o h
theorem e54 (a0:List Rel)(a1:List Int)(r:Bool)(h:m54 a0 a1=some r):evFL T 54 [.ts .imm 3 (a0.map nRel),.ts .imm 1 (a1.map nInt)] []=some (.bool r,[]):=by
 unfold m54 at h;rw [evFL_at fn54 (Nat.le_of_ble_eq_true rfl) rfl (.inr rfl) ⟨rfl,rfl⟩];(try simp -implicitDefEqProofs only [go_sem,i54,c54]);obtain ⟨o,q46,h⟩:=bnd_some h
 rcases o with ⟨⟩|⟨⟩
 · replace h:=selS_l h;have w47:=e54_1 a0 a1 (false,1) (.inl ()) q46;simp only [E54_1,X54_1] at w47;(try simp -implicitDefEqProofs only [go_sem] at w47);cases h;simp -implicitDefEqProofs only [go_sem,i54,c54,w47]
 · replace h:=selS_r h;have w47:=e54_1 a0 a1 (false,1) (.inr ()) q46;simp only [E54_1,X54_1] at w47;(try simp -implicitDefEqProofs only [go_sem] at w47);cases h;simp -implicitDefEqProofs only [go_sem,i54,c54,w47]
@[go_sem] theorem call47:CL 47 [[1],[0]]:=evCall0 fn47 rfl rfl rfl
noncomputable def X47_1 (a1:Int)(a0:List Int)(p1:Int)(o:(Unit ⊕ Unit)):Ex×Fr×St :=
 match o with
 | .inl o=>(.exit 0,frOf 17 (anyF),[])
 | .inr o=>(.ret,frOf 17 (upd anyF 4 (.bool true)),[])
noncomputable def E47_1 (a1:Int)(a0:List Int)(p1:Int)(s:Int):Fr×St:=(frOf 17 (upd (upd (upd (upd anyF 1 (nI a1)) 7 (.ts .imm 1 (a0.map nInt))) 8 (nI p1)) 9 (nI s)),[])
theorem b47_1 (a1:Int)(a0:List Int)(p1:Int)(s:Int)(o:Ctl Int (Unit ⊕ Unit))(h:m47_1b a1 a0 p1 s=some o):evCL T 0 k47_1b (E47_1 a1 a0 p1 s).1 (E47_1 a1 a0 p1 s).2=some (ctlX (E47_1 a1 a0 p1) (X47_1 a1 a0 p1) o):=by
 unfold m47_1b at h
 revert h
 generalize s=s9;intro h;try simp -implicitDefEqProofs only [go_sem,E47_1,X47_1,k47_1b]
 rcases brx h with ⟨b10,h⟩|⟨b10,h⟩
 · cases h;simp -implicitDefEqProofs only [go_sem,E47_1,X47_1,k47_1b,b10]
 · obtain ⟨x11,g13,g14,g15,h⟩:=bidx nInt h;(try simp -implicitDefEqProofs only [go_sem] at g14 g15);try simp -implicitDefEqProofs only [go_sem,E47_1,X47_1,k47_1b,b10,g13,g14,g15]
   rcases brx h with ⟨b16,h⟩|⟨b16,h⟩
   · cases h;simp -implicitDefEqProofs only [go_sem,E47_1,X47_1,k47_1b,b10,g13,g14,g15,b16]
   · cases h;simp -implicitDefEqProofs only [go_sem,E47_1,X47_1,k47_1b,b10,g13,g14,g15,b16]
theorem e47_1 (a1:Int)(a0:List Int)(p1:Int)(s:Int)(o:(Unit ⊕ Unit))(h:loopP (m47_1b a1 a0 p1) s=some o):evCL T 0 (.loop k47_1b) (E47_1 a1 a0 p1 s).1 (E47_1 a1 a0 p1 s).2=some (X47_1 a1 a0 p1 o) :=
 loop_walk (E:=E47_1 a1 a0 p1) (X:=X47_1 a1 a0 p1) (by intro b;rcases b with b | b<;>(simp only [X47_1];nofun)) (b47_1 a1 a0 p1) s o h
theorem e47 (a0:List Int)(a1:Int)(r:Bool)(h:m47 a0 a1=some r):evFL T 47 [.ts .imm 1 (a0.map nInt),nI a1] []=some (.bool r,[]):=by
 unfold m47 at h;rw [evFL_at fn47 (Nat.le_of_ble_eq_true rfl) rfl (.inr rfl) ⟨rfl,rfl⟩];(try simp -implicitDefEqProofs only [go_sem,i47,c47]);obtain ⟨o,q17,h⟩:=bnd_some h
 rcases o with ⟨⟩|⟨⟩
 · replace h:=selS_l h;have w18:=e47_1 a1 a0 (↑a0.length:Int) 0 (.inl ()) q17;simp only [E47_1,X47_1] at w18;(try simp -implicitDefEqProofs only [go_sem] at w18);cases h;simp -implicitDefEqProofs only [go_sem,i47,c47,w18]
 · replace h:=selS_r h;have w18:=e47_1 a1 a0 (↑a0.length:Int) 0 (.inr ()) q17;simp only [E47_1,X47_1] at w18;(try simp -implicitDefEqProofs only [go_sem] at w18);cases h;simp -implicitDefEqProofs only [go_sem,i47,c47,w18]
@[go_sem] theorem call60 (args:List AV)(S:St):evCall T (evFL T) 60 args S=c3A true true (evFL T 60) (rawAll S [[0],[3],[1],[1]] args):=evCall3_g fn60 rfl (fun h=>absurd h.1 (by decide)) args S
noncomputable def X60_1 (a1:List Rel)(a2:List Int)(a3:(List (List Int)))(o:Bool):Ex×Fr×St :=
 (.normal,frOf 61 (upd (upd (upd anyF 2 (.sl 2 0 a2.length)) 3 (.sl 3 0 a3.length)) 26 (.bool o)),[none,none,some ⟨.arr,1,a2.map nInt⟩,some ⟨.arr,1,a3.map (nLIn .own)⟩])
theorem e60_1 (rc:Int→(List Rel)→(List Int)→(List (List Int))→Option (List (List Int)))(hrc:∀(a0:Int) (a1:List Rel) (a2:List Int) (a3:(List (List Int))) (r:List (List Int)),rc a0 a1 a2 a3=some r→evFL T 60 [nI a0,.ts .imm 3 (a1.map nRel),.sl 0 0 a2.length,.sl 1 0 a3.length] [some ⟨.arr,1,a2.map nInt⟩,some ⟨.arr,1,a3.map (nLIn .own)⟩]=some (.sl 2 0 r.length,[none,none,some ⟨.arr,1,r.map (nLIn .own)⟩]))(a1:List Rel)(a2:List Int)(a3:(List (List Int)))(o:Bool)(h:m60_1 rc a1 a2=some o):evCL T 2 k60_1 (frOf 61 (upd (upd (upd anyF 1 (.ts .imm 3 (a1.map nRel))) 2 (.sl 2 0 a2.length)) 3 (.sl 3 0 a3.length))) [none,none,some ⟨.arr,1,a2.map nInt⟩,some ⟨.arr,1,a3.map (nLIn .own)⟩]=some (X60_1 a1 a2 a3 o):=by
 unfold m60_1 at h;try simp -implicitDefEqProofs only [go_sem,X60_1,k60_1]
 rcases brx h with ⟨b7,h⟩|⟨b7,h⟩
 · cases h;simp -implicitDefEqProofs only [go_sem,X60_1,k60_1,b7]
 · obtain ⟨r10,w9,h⟩:=bcall (e54 a1 a2) h;(try simp -implicitDefEqProofs only [go_sem] at w9);cases h;simp -implicitDefEqProofs only [go_sem,X60_1,k60_1,b7,w9]
noncomputable def X60_2 (v13:Bool)(a2:List Int)(a3:(List (List Int)))(o:(List (List Int))):Ex×Fr×St :=
 (.normal,frOf 61 (upd anyF 3 (.sl 2 0 o.length)),[none,none,some ⟨.arr,1,o.map (nLIn .own)⟩])
theorem e60_2 (rc:Int→(List Rel)→(List Int)→(List (List Int))→Option (List (List Int)))(hrc:∀(a0:Int) (a1:List Rel) (a2:List Int) (a3:(List (List Int))) (r:List (List Int)),rc a0 a1 a2 a3=some r→evFL T 60 [nI a0,.ts .imm 3 (a1.map nRel),.sl 0 0 a2.length,.sl 1 0 a3.length] [some ⟨.arr,1,a2.map nInt⟩,some ⟨.arr,1,a3.map (nLIn .own)⟩]=some (.sl 2 0 r.length,[none,none,some ⟨.arr,1,r.map (nLIn .own)⟩]))(v13:Bool)(a2:List Int)(a3:(List (List Int)))(o:(List (List Int)))(h:m60_2 rc v13 a2 a3=some o):evCL T 2 k60_2 (frOf 61 (upd (upd (upd anyF 2 (.sl 2 0 a2.length)) 3 (.sl 3 0 a3.length)) 26 (.bool v13))) [none,none,some ⟨.arr,1,a2.map nInt⟩,some ⟨.arr,1,a3.map (nLIn .own)⟩]=some (X60_2 v13 a2 a3 o):=by
 unfold m60_2 at h;try simp -implicitDefEqProofs only [go_sem,X60_2,k60_2]
 rcases brx h with ⟨b14,h⟩|⟨b14,h⟩
 · cases h;simp -implicitDefEqProofs only [go_sem,X60_2,k60_2,b14]
 · obtain ⟨g15,h⟩:=ck_some h;(try simp -implicitDefEqProofs only [go_sem] at g15);obtain ⟨g16,h⟩:=ck_some h;(try simp -implicitDefEqProofs only [go_sem] at g16);cases h;simp -implicitDefEqProofs only [go_sem,X60_2,k60_2,b14,g15,g16]
noncomputable def X60_6 (a0:Int)(a1:List Rel)(x1:Int)(s40:Int)(a2:List Int)(s41:List (List Int))(o:Bool):Ex×Fr×St :=
 (.normal,frOf 61 (upd (upd (upd (upd (upd (upd (upd anyF 0 (nI a0)) 1 (.ts .imm 3 (a1.map nRel))) 2 (.sl 2 0 a2.length)) 3 (.sl 3 0 s41.length)) 9 (nI x1)) 10 (nI s40)) 49 (.bool o)),[none,none,some ⟨.arr,1,a2.map nInt⟩,some ⟨.arr,1,s41.map (nLIn .own)⟩])
theorem e60_6 (rc:Int→(List Rel)→(List Int)→(List (List Int))→Option (List (List Int)))(hrc:∀(a0:Int) (a1:List Rel) (a2:List Int) (a3:(List (List Int))) (r:List (List Int)),rc a0 a1 a2 a3=some r→evFL T 60 [nI a0,.ts .imm 3 (a1.map nRel),.sl 0 0 a2.length,.sl 1 0 a3.length] [some ⟨.arr,1,a2.map nInt⟩,some ⟨.arr,1,a3.map (nLIn .own)⟩]=some (.sl 2 0 r.length,[none,none,some ⟨.arr,1,r.map (nLIn .own)⟩]))(a0:Int)(a1:List Rel)(x1:Int)(s40:Int)(a2:List Int)(s41:List (List Int))(o:Bool)(h:m60_6 rc a1 x1 s40 a2=some o):evCL T 2 k60_6 (frOf 61 (upd (upd (upd (upd (upd (upd anyF 0 (nI a0)) 1 (.ts .imm 3 (a1.map nRel))) 2 (.sl 2 0 a2.length)) 3 (.sl 3 0 s41.length)) 9 (nI x1)) 10 (nI s40))) [none,none,some ⟨.arr,1,a2.map nInt⟩,some ⟨.arr,1,s41.map (nLIn .own)⟩]=some (X60_6 a0 a1 x1 s40 a2 s41 o):=by
 unfold m60_6 at h;obtain ⟨r45,w44,h⟩:=bcall (e45 a1 x1 s40) h;(try simp -implicitDefEqProofs only [go_sem] at w44);try simp -implicitDefEqProofs only [go_sem,X60_6,k60_6,w44]
 rcases brx h with ⟨b46,h⟩|⟨b46,h⟩
 · obtain ⟨r49,w48,h⟩:=bcall (e47 a2 s40) h;(try simp -implicitDefEqProofs only [go_sem] at w48);cases h;simp -implicitDefEqProofs only [go_sem,X60_6,k60_6,w44,b46,w48]
 · cases h;simp -implicitDefEqProofs only [go_sem,X60_6,k60_6,w44,b46]
noncomputable def X60_7 (a0:Int)(a1:List Rel)(x1:Int)(s40:Int)(v52:Bool)(a2:List Int)(s41:List (List Int))(o:(List (List Int))):Ex×Fr×St :=
 (.normal,frOf 61 (upd (upd (upd (upd (upd (upd anyF 0 (nI a0)) 1 (.ts .imm 3 (a1.map nRel))) 2 (.sl 2 0 a2.length)) 3 (.sl 3 0 o.length)) 9 (nI x1)) 10 (nI s40)),[none,none,some ⟨.arr,1,a2.map nInt⟩,some ⟨.arr,1,o.map (nLIn .own)⟩])
theorem e60_7 (rc:Int→(List Rel)→(List Int)→(List (List Int))→Option (List (List Int)))(hrc:∀(a0:Int) (a1:List Rel) (a2:List Int) (a3:(List (List Int))) (r:List (List Int)),rc a0 a1 a2 a3=some r→evFL T 60 [nI a0,.ts .imm 3 (a1.map nRel),.sl 0 0 a2.length,.sl 1 0 a3.length] [some ⟨.arr,1,a2.map nInt⟩,some ⟨.arr,1,a3.map (nLIn .own)⟩]=some (.sl 2 0 r.length,[none,none,some ⟨.arr,1,r.map (nLIn .own)⟩]))(a0:Int)(a1:List Rel)(x1:Int)(s40:Int)(v52:Bool)(a2:List Int)(s41:List (List Int))(o:(List (List Int)))(h:m60_7 rc a0 a1 s40 v52 a2 s41=some o):evCL T 2 k60_7 (frOf 61 (upd (upd (upd (upd (upd (upd (upd anyF 0 (nI a0)) 1 (.ts .imm 3 (a1.map nRel))) 2 (.sl 2 0 a2.length)) 3 (.sl 3 0 s41.length)) 9 (nI x1)) 10 (nI s40)) 49 (.bool v52))) [none,none,some ⟨.arr,1,a2.map nInt⟩,some ⟨.arr,1,s41.map (nLIn .own)⟩]=some (X60_7 a0 a1 x1 s40 v52 a2 s41 o):=by
 unfold m60_7 at h;try simp -implicitDefEqProofs only [go_sem,X60_7,k60_7]
 rcases brx h with ⟨b53,h⟩|⟨b53,h⟩
 · cases h;simp -implicitDefEqProofs only [go_sem,X60_7,k60_7,b53]
 · obtain ⟨g54,h⟩:=ck_some h;(try simp -implicitDefEqProofs only [go_sem] at g54);obtain ⟨g55,h⟩:=ck_some h;obtain ⟨r58,w57,h⟩:=bcall (hrc a0 a1 (a2++[s40]) s41) h;(try simp -implicitDefEqProofs only [go_sem] at g55 w57);cases h;simp -implicitDefEqProofs only [go_sem,X60_7,k60_7,b53,g54,g55,w57]
noncomputable def X60_3 (a0:Int)(a1:List Rel)(x1:Int)(a2:List Int)(o:(List (List Int))):Ex×Fr×St :=
 (.exit 0,frOf 61 (upd anyF 3 (.sl 2 0 o.length)),[none,none,some ⟨.arr,1,o.map (nLIn .own)⟩])
noncomputable def E60_3 (a0:Int)(a1:List Rel)(x1:Int)(a2:List Int)(s:(Int×List (List Int))):Fr×St:=(frOf 61 (upd (upd (upd (upd (upd (upd anyF 0 (nI a0)) 1 (.ts .imm 3 (a1.map nRel))) 2 (.sl 2 0 a2.length)) 3 (.sl 3 0 s.2.length)) 9 (nI x1)) 10 (nI s.1)),[none,none,some ⟨.arr,1,a2.map nInt⟩,some ⟨.arr,1,s.2.map (nLIn .own)⟩])
theorem b60_3 (rc:Int→(List Rel)→(List Int)→(List (List Int))→Option (List (List Int)))(hrc:∀(a0:Int) (a1:List Rel) (a2:List Int) (a3:(List (List Int))) (r:List (List Int)),rc a0 a1 a2 a3=some r→evFL T 60 [nI a0,.ts .imm 3 (a1.map nRel),.sl 0 0 a2.length,.sl 1 0 a3.length] [some ⟨.arr,1,a2.map nInt⟩,some ⟨.arr,1,a3.map (nLIn .own)⟩]=some (.sl 2 0 r.length,[none,none,some ⟨.arr,1,r.map (nLIn .own)⟩]))(a0:Int)(a1:List Rel)(x1:Int)(a2:List Int)(s:(Int×List (List Int)))(o:Ctl (Int×List (List Int)) (List (List Int)))(h:m60_3b rc a0 a1 x1 a2 s=some o):evCL T 2 k60_3b (E60_3 a0 a1 x1 a2 s).1 (E60_3 a0 a1 x1 a2 s).2=some (ctlX (E60_3 a0 a1 x1 a2) (X60_3 a0 a1 x1 a2) o):=by
 unfold m60_3b at h;obtain ⟨s40,s41⟩:=s;replace h:=sel2_some h;try simp -implicitDefEqProofs only [go_sem,E60_3,X60_3,k60_3b]
 rcases brx h with ⟨b42,h⟩|⟨b42,h⟩
 · cases h;simp -implicitDefEqProofs only [go_sem,E60_3,X60_3,k60_3b,b42]
 · obtain ⟨v52,w51,h⟩:=bcall (e60_6 rc hrc a0 a1 x1 s40 a2 s41) h;simp only [X60_6] at w51;obtain ⟨v61,w60,h⟩:=bcall (e60_7 rc hrc a0 a1 x1 s40 v52 a2 s41) h;(try simp -implicitDefEqProofs only [go_sem] at w51);simp only [X60_7] at w60;(try simp -implicitDefEqProofs only [go_sem] at w60);cases h;simp -implicitDefEqProofs only [go_sem,E60_3,X60_3,k60_3b,b42,w51,w60]
theorem e60_3 (rc:Int→(List Rel)→(List Int)→(List (List Int))→Option (List (List Int)))(hrc:∀(a0:Int) (a1:List Rel) (a2:List Int) (a3:(List (List Int))) (r:List (List Int)),rc a0 a1 a2 a3=some r→evFL T 60 [nI a0,.ts .imm 3 (a1.map nRel),.sl 0 0 a2.length,.sl 1 0 a3.length] [some ⟨.arr,1,a2.map nInt⟩,some ⟨.arr,1,a3.map (nLIn .own)⟩]=some (.sl 2 0 r.length,[none,none,some ⟨.arr,1,r.map (nLIn .own)⟩]))(a0:Int)(a1:List Rel)(x1:Int)(a2:List Int)(s:(Int×List (List Int)))(o:(List (List Int)))(h:loopP (m60_3b rc a0 a1 x1 a2) s=some o):evCL T 2 (.loop k60_3b) (E60_3 a0 a1 x1 a2 s).1 (E60_3 a0 a1 x1 a2 s).2=some (X60_3 a0 a1 x1 a2 o) :=
 loop_walk (E:=E60_3 a0 a1 x1 a2) (X:=X60_3 a0 a1 x1 a2) (by intro b;(simp only [X60_3];nofun)) (b60_3 rc hrc a0 a1 x1 a2) s o h
theorem e60r (rc:Int→(List Rel)→(List Int)→(List (List Int))→Option (List (List Int)))(hrc:∀(a0:Int) (a1:List Rel) (a2:List Int) (a3:(List (List Int))) (r:List (List Int)),rc a0 a1 a2 a3=some r→evFL T 60 [nI a0,.ts .imm 3 (a1.map nRel),.sl 0 0 a2.length,.sl 1 0 a3.length] [some ⟨.arr,1,a2.map nInt⟩,some ⟨.arr,1,a3.map (nLIn .own)⟩]=some (.sl 2 0 r.length,[none,none,some ⟨.arr,1,r.map (nLIn .own)⟩]))(a0:Int)(a1:List Rel)(a2:List Int)(a3:(List (List Int)))(r:List (List Int))(h:m60r rc a0 a1 a2 a3=some r):evFL T 60 [nI a0,.ts .imm 3 (a1.map nRel),.sl 0 0 a2.length,.sl 1 0 a3.length] [some ⟨.arr,1,a2.map nInt⟩,some ⟨.arr,1,a3.map (nLIn .own)⟩]=some (.sl 2 0 r.length,[none,none,some ⟨.arr,1,r.map (nLIn .own)⟩]):=by
 unfold m60r at h;rw [evFL_at fn60 (Nat.le_of_ble_eq_true rfl) rfl (.inl rfl) ⟨rfl,rfl⟩];obtain ⟨x1,g3,g4,g5,h⟩:=bidx nInt h;(try simp -implicitDefEqProofs only [go_sem] at g4 g5);try simp -implicitDefEqProofs only [go_sem,i60,c60,g3,g4,g5]
 rcases brx h with ⟨b6,h⟩|⟨b6,h⟩
 · obtain ⟨v64,w63,h⟩:=bcall (e60_3 rc hrc a0 a1 x1 a2 (0,a3)) h;simp only [E60_3,X60_3] at w63;(try simp -implicitDefEqProofs only [go_sem] at w63);cases h;simp -implicitDefEqProofs only [go_sem,i60,c60,g3,g4,g5,b6,w63]
 · obtain ⟨v13,w12,h⟩:=bcall (e60_1 rc hrc a1 a2 a3) h;simp only [X60_1] at w12;obtain ⟨v19,w18,h⟩:=bcall (e60_2 rc hrc v13 a2 a3) h;(try simp -implicitDefEqProofs only [go_sem] at w12);simp only [X60_2] at w18;(try simp -implicitDefEqProofs only [go_sem] at w18);cases h;simp -implicitDefEqProofs only [go_sem,i60,c60,g3,g4,g5,b6,w12,w18]
theorem e60k:∀(k:Nat) (a0:Int) (a1:List Rel) (a2:List Int) (a3:(List (List Int))) (r:List (List Int)) (h:m60k k a0 a1 a2 a3=some r),evFL T 60 [nI a0,.ts .imm 3 (a1.map nRel),.sl 0 0 a2.length,.sl 1 0 a3.length] [some ⟨.arr,1,a2.map nInt⟩,some ⟨.arr,1,a3.map (nLIn .own)⟩]=some (.sl 2 0 r.length,[none,none,some ⟨.arr,1,r.map (nLIn .own)⟩]):=by
 intro k
 induction k with
 | zero=>intro a0 a1 a2 a3 r h;cases h
 | succ k ih=>intro a0 a1 a2 a3 r h;exact e60r (m60k k) (fun a0 a1 a2 a3 r h=>ih a0 a1 a2 a3 r h) a0 a1 a2 a3 r h
theorem e60 (a0:Int)(a1:List Rel)(a2:List Int)(a3:(List (List Int)))(r:List (List Int))(h:m60 a0 a1 a2 a3=some r):evFL T 60 [nI a0,.ts .imm 3 (a1.map nRel),.sl 0 0 a2.length,.sl 1 0 a3.length] [some ⟨.arr,1,a2.map nInt⟩,some ⟨.arr,1,a3.map (nLIn .own)⟩]=some (.sl 2 0 r.length,[none,none,some ⟨.arr,1,r.map (nLIn .own)⟩]):=by
 obtain ⟨N,hN⟩:=limO_iff.1 h;exact e60k N a0 a1 a2 a3 r (hN N (Nat.le_refl N))
@[go_sem] theorem call61:CL 61 [[3],[1],[1]]:=evCall0 fn61 rfl rfl rfl
noncomputable def X61_1 (a1:List Int)(a2:List Int)(p29:Int)(o:(Unit ⊕ Bool)):Ex×Fr×St :=
 match o with
 | .inl o=>(.exit 0,frOf 66 (anyF),[])
 | .inr o=>(.ret,frOf 66 (upd anyF 6 (.bool o)),[])
noncomputable def E61_1 (a1:List Int)(a2:List Int)(p29:Int)(s:Int):Fr×St:=(frOf 66 (upd (upd (upd (upd anyF 1 (.ts .imm 1 (a1.map nInt))) 2 (.ts .imm 1 (a2.map nInt))) 43 (nI p29)) 44 (nI s)),[])
theorem b61_1 (a1:List Int)(a2:List Int)(p29:Int)(s:Int)(o:Ctl Int (Unit ⊕ Bool))(h:m61_1b a1 a2 p29 s=some o):evCL T 0 k61_1b (E61_1 a1 a2 p29 s).1 (E61_1 a1 a2 p29 s).2=some (ctlX (E61_1 a1 a2 p29) (X61_1 a1 a2 p29) o):=by
 unfold m61_1b at h
 revert h
 generalize s=s42;intro h;try simp -implicitDefEqProofs only [go_sem,E61_1,X61_1,k61_1b]
 rcases brx h with ⟨b43,h⟩|⟨b43,h⟩
 · cases h;simp -implicitDefEqProofs only [go_sem,E61_1,X61_1,k61_1b,b43]
 · obtain ⟨x44,g46,g47,g48,h⟩:=bidx nInt h;obtain ⟨x49,g51,g52,g53,h⟩:=bidx nInt h;(try simp -implicitDefEqProofs only [go_sem] at g47 g48 g52 g53);try simp -implicitDefEqProofs only [go_sem,E61_1,X61_1,k61_1b,b43,g46,g47,g48,g51,g52,g53]
   rcases brx h with ⟨b54,h⟩|⟨b54,h⟩
   · cases h;simp -implicitDefEqProofs only [go_sem,E61_1,X61_1,k61_1b,b43,g46,g47,g48,g51,g52,g53,b54]
   · cases h;simp -implicitDefEqProofs only [go_sem,E61_1,X61_1,k61_1b,b43,g46,g47,g48,g51,g52,g53,b54]
theorem e61_1 (a1:List Int)(a2:List Int)(p29:Int)(s:Int)(o:(Unit ⊕ Bool))(h:loopP (m61_1b a1 a2 p29) s=some o):evCL T 0 (.loop k61_1b) (E61_1 a1 a2 p29 s).1 (E61_1 a1 a2 p29 s).2=some (X61_1 a1 a2 p29 o) :=
 loop_walk (E:=E61_1 a1 a2 p29) (X:=X61_1 a1 a2 p29) (by intro b;rcases b with b | b<;>(simp only [X61_1];nofun)) (b61_1 a1 a2 p29) s o h
theorem e61 (a0:List Rel)(a1:List Int)(a2:List Int)(r:Bool)(h:m61 a0 a1 a2=some r):evFL T 61 [.ts .imm 3 (a0.map nRel),.ts .imm 1 (a1.map nInt),.ts .imm 1 (a2.map nInt)] []=some (.bool r,[]):=by
 unfold m61 at h;rw [evFL_at fn61 (Nat.le_of_ble_eq_true rfl) rfl (.inr rfl) ⟨rfl,rfl⟩];obtain ⟨x1,g3,g4,g5,h⟩:=bidx nInt h;obtain ⟨x6,g8,g9,g10,h⟩:=bidx nInt h;obtain ⟨r13,w12,h⟩:=bcall (e45 a0 x1 x6) h;obtain ⟨x14,g16,g17,g18,h⟩:=bidx nInt h;obtain ⟨x19,g21,g22,g23,h⟩:=bidx nInt h;obtain ⟨r26,w25,h⟩:=bcall (e45 a0 x14 x19) h;(try simp -implicitDefEqProofs only [go_sem] at g4 g5 g9 g10 w12 g17 g18 g22 g23 w25);try simp -implicitDefEqProofs only [go_sem,i61,c61,g3,g4,g5,g8,g9,g10,w12,g16,g17,g18,g21,g22,g23,w25]
 rcases brx h with ⟨b27,h⟩|⟨b27,h⟩
 · cases h;simp -implicitDefEqProofs only [go_sem,i61,c61,g3,g4,g5,g8,g9,g10,w12,g16,g17,g18,g21,g22,g23,w25,b27]
 · try simp -implicitDefEqProofs only [go_sem,i61,c61,g3,g4,g5,g8,g9,g10,w12,g16,g17,g18,g21,g22,g23,w25,b27]
   rcases brx h with ⟨b28,h⟩|⟨b28,h⟩
   · cases h;simp -implicitDefEqProofs only [go_sem,i61,c61,g3,g4,g5,g8,g9,g10,w12,g16,g17,g18,g21,g22,g23,w25,b27,b28]
   · (try simp -implicitDefEqProofs only [go_sem,i61,c61,g3,g4,g5,g8,g9,g10,w12,g16,g17,g18,g21,g22,g23,w25,b27,b28]);obtain ⟨o,q55,h⟩:=bnd_some h
     rcases o with ⟨⟩|v57
     · replace h:=selS_l h;have w56:=e61_1 a1 a2 (↑a1.length:Int) 0 (.inl ()) q55;simp only [E61_1,X61_1] at w56;(try simp -implicitDefEqProofs only [go_sem] at w56);cases h;simp -implicitDefEqProofs only [go_sem,i61,c61,g3,g4,g5,g8,g9,g10,w12,g16,g17,g18,g21,g22,g23,w25,b27,b28,w56]
     · replace h:=selS_r h;have w56:=e61_1 a1 a2 (↑a1.length:Int) 0 (.inr v57) q55;simp only [E61_1,X61_1] at w56;(try simp -implicitDefEqProofs only [go_sem] at w56);cases h;simp -implicitDefEqProofs only [go_sem,i61,c61,g3,g4,g5,g8,g9,g10,w12,g16,g17,g18,g21,g22,g23,w25,b27,b28,w56]
@[go_sem] theorem call91:CL 91 [[1],[1]]:=evCall0 fn91 rfl rfl rfl
noncomputable def X91_1 (a0:List Int)(a1:List Int)(p2:Int)(o:(Unit ⊕ Unit)):Ex×Fr×St :=
 match o with
 | .inl o=>(.exit 0,frOf 26 (anyF),[])
 | .inr o=>(.ret,frOf 26 (upd anyF 4 (.bool false)),[])
noncomputable def E91_1 (a0:List Int)(a1:List Int)(p2:Int)(s:Int):Fr×St:=(frOf 26 (upd (upd (upd (upd anyF 0 (.ts .imm 1 (a0.map nInt))) 1 (.ts .imm 1 (a1.map nInt))) 12 (nI p2)) 13 (nI s)),[])
theorem b91_1 (a0:List Int)(a1:List Int)(p2:Int)(s:Int)(o:Ctl Int (Unit ⊕ Unit))(h:m91_1b a0 a1 p2 s=some o):evCL T 0 k91_1b (E91_1 a0 a1 p2 s).1 (E91_1 a0 a1 p2 s).2=some (ctlX (E91_1 a0 a1 p2) (X91_1 a0 a1 p2) o):=by
 unfold m91_1b at h
 revert h
 generalize s=s15;intro h;try simp -implicitDefEqProofs only [go_sem,E91_1,X91_1,k91_1b]
 rcases brx h with ⟨b16,h⟩|⟨b16,h⟩
 · cases h;simp -implicitDefEqProofs only [go_sem,E91_1,X91_1,k91_1b,b16]
 · obtain ⟨x17,g19,g20,g21,h⟩:=bidx nInt h;obtain ⟨x22,g24,g25,g26,h⟩:=bidx nInt h;(try simp -implicitDefEqProofs only [go_sem] at g20 g21 g25 g26);try simp -implicitDefEqProofs only [go_sem,E91_1,X91_1,k91_1b,b16,g19,g20,g21,g24,g25,g26]
   rcases brx h with ⟨b27,h⟩|⟨b27,h⟩
   · cases h;simp -implicitDefEqProofs only [go_sem,E91_1,X91_1,k91_1b,b16,g19,g20,g21,g24,g25,g26,b27]
   · cases h;simp -implicitDefEqProofs only [go_sem,E91_1,X91_1,k91_1b,b16,g19,g20,g21,g24,g25,g26,b27]
theorem e91_1 (a0:List Int)(a1:List Int)(p2:Int)(s:Int)(o:(Unit ⊕ Unit))(h:loopP (m91_1b a0 a1 p2) s=some o):evCL T 0 (.loop k91_1b) (E91_1 a0 a1 p2 s).1 (E91_1 a0 a1 p2 s).2=some (X91_1 a0 a1 p2 o) :=
 loop_walk (E:=E91_1 a0 a1 p2) (X:=X91_1 a0 a1 p2) (by intro b;rcases b with b | b<;>(simp only [X91_1];nofun)) (b91_1 a0 a1 p2) s o h
theorem e91 (a0:List Int)(a1:List Int)(r:Bool)(h:m91 a0 a1=some r):evFL T 91 [.ts .imm 1 (a0.map nInt),.ts .imm 1 (a1.map nInt)] []=some (.bool r,[]):=by
 unfold m91 at h;rw [evFL_at fn91 (Nat.le_of_ble_eq_true rfl) rfl (.inr rfl) ⟨rfl,rfl⟩];try simp -implicitDefEqProofs only [go_sem,i91,c91]
 rcases brx h with ⟨b1,h⟩|⟨b1,h⟩
 · cases h;simp -implicitDefEqProofs only [go_sem,i91,c91,b1]
 · (try simp -implicitDefEqProofs only [go_sem,i91,c91,b1]);obtain ⟨o,q28,h⟩:=bnd_some h
   rcases o with ⟨⟩|⟨⟩
   · replace h:=selS_l h;have w29:=e91_1 a0 a1 (↑a0.length:Int) 0 (.inl ()) q28;simp only [E91_1,X91_1] at w29;(try simp -implicitDefEqProofs only [go_sem] at w29);cases h;simp -implicitDefEqProofs only [go_sem,i91,c91,b1,w29]
   · replace h:=selS_r h;have w29:=e91_1 a0 a1 (↑a0.length:Int) 0 (.inr ()) q28;simp only [E91_1,X91_1] at w29;(try simp -implicitDefEqProofs only [go_sem] at w29);cases h;simp -implicitDefEqProofs only [go_sem,i91,c91,b1,w29]
theorem call75:CL 75 [[1],[0],[1]]:=evCall0 fn75 rfl rfl rfl
theorem callz75:CZ 75 [[0]] [[1],[0],[1]]:=evCallFz0 fn75 rfl rfl rfl
attribute [go_sem] call75 callz75
noncomputable def X75_1 (a2:List Int)(x1:(List (List Int)))(p6:Int)(o:(Unit ⊕ Int)):Ex×Fr×St :=
 match o with
 | .inl o=>(.exit 0,frOf 26 (anyF),[])
 | .inr o=>(.ret,frOf 26 (upd anyF 6 (nI o)),[])
noncomputable def E75_1 (a2:List Int)(x1:(List (List Int)))(p6:Int)(s:Int):Fr×St:=(frOf 26 (upd (upd (upd (upd anyF 2 (.ts .imm 1 (a2.map nInt))) 14 (.ts .imm 1 (x1.map (nLIn .imm)))) 15 (nI p6)) 16 (nI s)),[])
theorem b75_1 (a2:List Int)(x1:(List (List Int)))(p6:Int)(s:Int)(o:Ctl Int (Unit ⊕ Int))(h:m75_1b a2 x1 p6 s=some o):evCL T 0 k75_1b (E75_1 a2 x1 p6 s).1 (E75_1 a2 x1 p6 s).2=some (ctlX (E75_1 a2 x1 p6) (X75_1 a2 x1 p6) o):=by
 unfold m75_1b at h
 revert h
 generalize s=s17;intro h;try simp -implicitDefEqProofs only [go_sem,E75_1,X75_1,k75_1b]
 rcases brx h with ⟨b18,h⟩|⟨b18,h⟩
 · cases h;simp -implicitDefEqProofs only [go_sem,E75_1,X75_1,k75_1b,b18]
 · obtain ⟨x19,g21,g22,g23,h⟩:=bidx (nLIn .imm) h;obtain ⟨r26,w25,h⟩:=bcall (e91 x19 a2) h;(try simp -implicitDefEqProofs only [go_sem] at g22 g23 w25);try simp -implicitDefEqProofs only [go_sem,E75_1,X75_1,k75_1b,b18,g21,g22,g23,w25]
   rcases brx h with ⟨b27,h⟩|⟨b27,h⟩
   · cases h;simp -implicitDefEqProofs only [go_sem,E75_1,X75_1,k75_1b,b18,g21,g22,g23,w25,b27]
   · cases h;simp -implicitDefEqProofs only [go_sem,E75_1,X75_1,k75_1b,b18,g21,g22,g23,w25,b27]
theorem e75_1 (a2:List Int)(x1:(List (List Int)))(p6:Int)(s:Int)(o:(Unit ⊕ Int))(h:loopP (m75_1b a2 x1 p6) s=some o):evCL T 0 (.loop k75_1b) (E75_1 a2 x1 p6 s).1 (E75_1 a2 x1 p6 s).2=some (X75_1 a2 x1 p6 o) :=
 loop_walk (E:=E75_1 a2 x1 p6) (X:=X75_1 a2 x1 p6) (by intro b;rcases b with b | b<;>(simp only [X75_1];nofun)) (b75_1 a2 x1 p6) s o h
theorem e75 (a0:Spp)(a1:Int)(a2:List Int)(r:Int)(h:m75 a0 a1 a2=some r):evFL T 75 [.agg [.ts .imm 1 (a0.ranked.map (nLLI .imm))],nI a1,.ts .imm 1 (a2.map nInt)] []=some (nI r,[]):=by
 unfold m75 at h;rw [evFL_at fn75 (Nat.le_of_ble_eq_true rfl) rfl (.inr rfl) ⟨rfl,rfl⟩];obtain ⟨x1,g3,g4,g5,h⟩:=bidx (nLLI .imm) h;(try simp -implicitDefEqProofs only [go_sem] at g4 g5);(try simp -implicitDefEqProofs only [go_sem,i75,c75,g3,g4,g5]);obtain ⟨o,q28,h⟩:=bnd_some h
 rcases o with ⟨⟩|v30
 · replace h:=selS_l h;have w29:=e75_1 a2 x1 (↑x1.length:Int) 0 (.inl ()) q28;simp only [E75_1,X75_1] at w29;(try simp -implicitDefEqProofs only [go_sem] at w29);cases h;simp -implicitDefEqProofs only [go_sem,i75,c75,g3,g4,g5,w29]
 · replace h:=selS_r h;have w29:=e75_1 a2 x1 (↑x1.length:Int) 0 (.inr v30) q28;simp only [E75_1,X75_1] at w29;(try simp -implicitDefEqProofs only [go_sem] at w29);cases h;simp -implicitDefEqProofs only [go_sem,i75,c75,g3,g4,g5,w29]
@[go_sem] theorem call74:CL 74 [[1],[0],[1]]:=evCall0 fn74 rfl rfl rfl
noncomputable def X74_1 (a1:Int)(a2:List Int)(p1:Int)(a0:Spp)(o:Bool):Ex×Fr×St :=
 (.normal,frOf 78 (upd (upd (upd (upd anyF 2 (.ts .imm 1 (a2.map nInt))) 3 (.ptr 0 0 0)) 7 (nI p1)) 31 (.bool o)),[some ⟨.box,1,[[.ts .imm 1 (a0.ranked.map (nLLI .imm))]]⟩])
theorem e74_1 (a1:Int)(a2:List Int)(p1:Int)(a0:Spp)(o:Bool)(h:m74_1 a1 a2=some o):evCL T 0 k74_1 (frOf 78 (upd (upd (upd (upd anyF 1 (nI a1)) 2 (.ts .imm 1 (a2.map nInt))) 3 (.ptr 0 0 0)) 7 (nI p1))) [some ⟨.box,1,[[.ts .imm 1 (a0.ranked.map (nLLI .imm))]]⟩]=some (X74_1 a1 a2 p1 a0 o):=by
 unfold m74_1 at h;try simp -implicitDefEqProofs only [go_sem,X74_1,k74_1]
 rcases brx h with ⟨b2,h⟩|⟨b2,h⟩
 · obtain ⟨x3,g5,g6,g7,h⟩:=bidx nInt h;(try simp -implicitDefEqProofs only [go_sem] at g6 g7);try simp -implicitDefEqProofs only [go_sem,X74_1,k74_1,b2,g5,g6,g7]
   rcases brx h with ⟨b8,h⟩|⟨b8,h⟩
   · cases h;simp -implicitDefEqProofs only [go_sem,X74_1,k74_1,b2,g5,g6,g7,b8]
   · obtain ⟨x9,g11,g12,g13,h⟩:=bidx nInt h;(try simp -implicitDefEqProofs only [go_sem] at g12 g13);cases h;simp -implicitDefEqProofs only [go_sem,X74_1,k74_1,b2,g5,g6,g7,b8,g11,g12,g13]
 · cases h;simp -implicitDefEqProofs only [go_sem,X74_1,k74_1,b2]
noncomputable def X74_4 (a2:List Int)(p18:Int)(s38:Int)(x40:Int)(p19:Int)(a0:Spp)(o:Bool):Ex×Fr×St :=
 (.normal,frOf 78 (upd (upd (upd (upd (upd (upd (upd anyF 2 (.ts .imm 1 (a2.map nInt))) 3 (.ptr 0 0 0)) 7 (nI p18)) 32 (.ts .imm 1 (a2.map nInt))) 33 (nI p19)) 34 (nI s38)) 63 (.bool o)),[some ⟨.box,1,[[.ts .imm 1 (a0.ranked.map (nLLI .imm))]]⟩])
theorem e74_4 (a2:List Int)(p18:Int)(s38:Int)(x40:Int)(p19:Int)(a0:Spp)(o:Bool)(h:m74_4 a2 p18 s38 x40=some o):evCL T 0 k74_4 (frOf 78 (upd (upd (upd (upd (upd (upd (upd (upd anyF 2 (.ts .imm 1 (a2.map nInt))) 3 (.ptr 0 0 0)) 7 (nI p18)) 8 (nI s38)) 9 (nI x40)) 32 (.ts .imm 1 (a2.map nInt))) 33 (nI p19)) 34 (nI s38))) [some ⟨.box,1,[[.ts .imm 1 (a0.ranked.map (nLLI .imm))]]⟩]=some (X74_4 a2 p18 s38 x40 p19 a0 o):=by
 unfold m74_4 at h;try simp -implicitDefEqProofs only [go_sem,X74_4,k74_4]
 rcases brx h with ⟨b45,h⟩|⟨b45,h⟩
 · try simp -implicitDefEqProofs only [go_sem,X74_4,k74_4,b45]
   rcases brx h with ⟨b46,h⟩|⟨b46,h⟩
   · obtain ⟨g47,h⟩:=ck_some h;obtain ⟨r50,w49,h⟩:=bcall (e47 (a2.take s38.toNat) x40) h;(try simp -implicitDefEqProofs only [go_sem] at g47 w49);try simp -implicitDefEqProofs only [go_sem,X74_4,k74_4,b45,b46,g47,w49]
     rcases brx h with ⟨b51,h⟩|⟨b51,h⟩
     · try simp -implicitDefEqProofs only [go_sem,X74_4,k74_4,b45,b46,g47,w49,b51]
       rcases brx h with ⟨b52,h⟩|⟨b52,h⟩
       · cases h;simp -implicitDefEqProofs only [go_sem,X74_4,k74_4,b45,b46,g47,w49,b51,b52]
       · cases h;simp -implicitDefEqProofs only [go_sem,X74_4,k74_4,b45,b46,g47,w49,b51,b52]
     · cases h;simp -implicitDefEqProofs only [go_sem,X74_4,k74_4,b45,b46,g47,w49,b51]
   · cases h;simp -implicitDefEqProofs only [go_sem,X74_4,k74_4,b45,b46]
 · cases h;simp -implicitDefEqProofs only [go_sem,X74_4,k74_4,b45]
noncomputable def X74_2 (a2:List Int)(p18:Int)(p19:Int)(a0:Spp)(o:(Unit ⊕ Unit)):Ex×Fr×St :=
 match o with
 | .inl o=>(.exit 0,frOf 78 (upd (upd anyF 2 (.ts .imm 1 (a2.map nInt))) 3 (.ptr 0 0 0)),[some ⟨.box,1,[[.ts .imm 1 (a0.ranked.map (nLLI .imm))]]⟩])
 | .inr o=>(.ret,frOf 78 (upd anyF 6 (.bool false)),[])
noncomputable def E74_2 (a2:List Int)(p18:Int)(p19:Int)(a0:Spp)(s:Int):Fr×St:=(frOf 78 (upd (upd (upd (upd (upd (upd anyF 2 (.ts .imm 1 (a2.map nInt))) 3 (.ptr 0 0 0)) 7 (nI p18)) 32 (.ts .imm 1 (a2.map nInt))) 33 (nI p19)) 34 (nI s)),[some ⟨.box,1,[[.ts .imm 1 (a0.ranked.map (nLLI .imm))]]⟩])
theorem b74_2 (a2:List Int)(p18:Int)(p19:Int)(a0:Spp)(s:Int)(o:Ctl Int (Unit ⊕ Unit))(h:m74_2b a2 p18 p19 s=some o):evCL T 0 k74_2b (E74_2 a2 p18 p19 a0 s).1 (E74_2 a2 p18 p19 a0 s).2=some (ctlX (E74_2 a2 p18 p19 a0) (X74_2 a2 p18 p19 a0) o):=by
 unfold m74_2b at h
 revert h
 generalize s=s38;intro h;try simp -implicitDefEqProofs only [go_sem,E74_2,X74_2,k74_2b]
 rcases brx h with ⟨b39,h⟩|⟨b39,h⟩
 · cases h;simp -implicitDefEqProofs only [go_sem,E74_2,X74_2,k74_2b,b39]
 · obtain ⟨x40,g42,g43,g44,h⟩:=bidx nInt h;obtain ⟨v55,w54,h⟩:=bcall (e74_4 a2 p18 s38 x40 p19 a0) h;(try simp -implicitDefEqProofs only [go_sem] at g43 g44);simp only [X74_4] at w54;(try simp -implicitDefEqProofs only [go_sem] at w54);try simp -implicitDefEqProofs only [go_sem,E74_2,X74_2,k74_2b,b39,g42,g43,g44,w54]
   rcases brx h with ⟨b56,h⟩|⟨b56,h⟩
   · cases h;simp -implicitDefEqProofs only [go_sem,E74_2,X74_2,k74_2b,b39,g42,g43,g44,w54,b56]
   · cases h;simp -implicitDefEqProofs only [go_sem,E74_2,X74_2,k74_2b,b39,g42,g43,g44,w54,b56]
theorem e74_2 (a2:List Int)(p18:Int)(p19:Int)(a0:Spp)(s:Int)(o:(Unit ⊕ Unit))(h:loopP (m74_2b a2 p18 p19) s=some o):evCL T 0 (.loop k74_2b) (E74_2 a2 p18 p19 a0 s).1 (E74_2 a2 p18 p19 a0 s).2=some (X74_2 a2 p18 p19 a0 o) :=
 loop_walk (E:=E74_2 a2 p18 p19 a0) (X:=X74_2 a2 p18 p19 a0) (by intro b;rcases b with b | b<;>(simp only [X74_2];nofun)) (b74_2 a2 p18 p19 a0) s o h
noncomputable def X74_5 (a2:List Int)(a0:Spp)(o:Bool):Ex×Fr×St :=
 (.normal,frOf 78 (upd anyF 6 (.bool o)),[])
theorem e74_5 (a2:List Int)(a0:Spp)(o:Bool)(h:m74_5 a2 a0=some o):evCL T 0 k74_5 (frOf 78 (upd (upd anyF 2 (.ts .imm 1 (a2.map nInt))) 3 (.ptr 0 0 0))) [some ⟨.box,1,[[.ts .imm 1 (a0.ranked.map (nLLI .imm))]]⟩]=some (X74_5 a2 a0 o):=by
 unfold m74_5 at h;try simp -implicitDefEqProofs only [go_sem,X74_5,k74_5]
 rcases brx h with ⟨b59,h⟩|⟨b59,h⟩
 · obtain ⟨x60,g62,g63,g64,h⟩:=bidx nInt h;(try simp -implicitDefEqProofs only [go_sem] at g63 g64);obtain ⟨g65,h⟩:=ck_some h;obtain ⟨r68,w67,h⟩:=bcall (e75 a0 x60 (a2.drop 1)) h;(try simp -implicitDefEqProofs only [go_sem] at g65 w67);cases h;simp -implicitDefEqProofs only [go_sem,X74_5,k74_5,b59,g62,g63,g64,g65,w67]
 · cases h;simp -implicitDefEqProofs only [go_sem,X74_5,k74_5,b59]
theorem e74 (a0:Spp)(a1:Int)(a2:List Int)(r:Bool)(h:m74 a0 a1 a2=some r):evFL T 74 [.agg [.ts .imm 1 (a0.ranked.map (nLLI .imm))],nI a1,.ts .imm 1 (a2.map nInt)] []=some (.bool r,[]):=by
 unfold m74 at h;rw [evFL_at fn74 (Nat.le_of_ble_eq_true rfl) rfl (.inr rfl) ⟨rfl,rfl⟩];obtain ⟨v16,w15,h⟩:=bcall (e74_1 a1 a2 (↑a0.ranked.length:Int) a0) h;simp only [X74_1] at w15;(try simp -implicitDefEqProofs only [go_sem] at w15);try simp -implicitDefEqProofs only [go_sem,i74,c74,w15]
 rcases brx h with ⟨b17,h⟩|⟨b17,h⟩
 · (try simp -implicitDefEqProofs only [go_sem,i74,c74,w15,b17]);obtain ⟨o,q57,h⟩:=bnd_some h
   rcases o with ⟨⟩|⟨⟩
   · replace h:=selS_l h;have w58:=e74_2 a2 (↑a0.ranked.length:Int) (↑a2.length:Int) a0 0 (.inl ()) q57;simp only [E74_2,X74_2] at w58;obtain ⟨v71,w70,h⟩:=bcall (e74_5 a2 a0) h;(try simp -implicitDefEqProofs only [go_sem] at w58);simp only [X74_5] at w70;(try simp -implicitDefEqProofs only [go_sem] at w70);cases h;simp -implicitDefEqProofs only [go_sem,i74,c74,w15,b17,w58,w70]
   · replace h:=selS_r h;have w58:=e74_2 a2 (↑a0.ranked.length:Int) (↑a2.length:Int) a0 0 (.inr ()) q57;simp only [E74_2,X74_2] at w58;(try simp -implicitDefEqProofs only [go_sem] at w58);cases h;simp -implicitDefEqProofs only [go_sem,i74,c74,w15,b17,w58]
 · cases h;simp -implicitDefEqProofs only [go_sem,i74,c74,w15,b17]
@[go_sem] theorem call62:CL 62 [[1]]:=evCall0 fn62 rfl rfl rfl
noncomputable def X62_7 (s51:Int)(s77:Int)(x79:List Int)(a0:Spp)(p5:Int)(x53:(List (List Int)))(p59:Int)(o:Bool):Ex×Fr×St :=
 (.normal,frOf 47 (upd (upd (upd (upd (upd (upd (upd (upd (upd anyF 1 (.ptr 0 0 0)) 3 (nI s51)) 13 (.ts .imm 1 (a0.ranked.map (nLLI .imm)))) 14 (nI p5)) 15 (nI s51)) 23 (.ts .imm 1 (x53.map (nLIn .imm)))) 24 (nI p59)) 25 (nI s77)) 44 (.bool o)),[some ⟨.box,1,[[.ts .imm 1 (a0.ranked.map (nLLI .imm))]]⟩])
theorem e62_7 (s51:Int)(s77:Int)(x79:List Int)(a0:Spp)(p5:Int)(x53:(List (List Int)))(p59:Int)(o:Bool)(h:m62_7 s51 s77 x79 a0=some o):evCL T 0 k62_7 (frOf 47 (upd (upd (upd (upd (upd (upd (upd (upd (upd (upd anyF 1 (.ptr 0 0 0)) 3 (nI s51)) 5 (nI s77)) 6 (.ts .imm 1 (x79.map nInt))) 13 (.ts .imm 1 (a0.ranked.map (nLLI .imm)))) 14 (nI p5)) 15 (nI s51)) 23 (.ts .imm 1 (x53.map (nLIn .imm)))) 24 (nI p59)) 25 (nI s77))) [some ⟨.box,1,[[.ts .imm 1 (a0.ranked.map (nLLI .imm))]]⟩]=some (X62_7 s51 s77 x79 a0 p5 x53 p59 o):=by
 unfold m62_7 at h;obtain ⟨r86,w85,h⟩:=bcall (e74 a0 (wadd .i64 s51 1) x79) h;(try simp -implicitDefEqProofs only [go_sem] at w85);try simp -implicitDefEqProofs only [go_sem,X62_7,k62_7,w85]
 rcases brx h with ⟨b87,h⟩|⟨b87,h⟩
 · cases h;simp -implicitDefEqProofs only [go_sem,X62_7,k62_7,w85,b87]
 · obtain ⟨r90,w89,h⟩:=bcall (e75 a0 (wadd .i64 s51 1) x79) h;(try simp -implicitDefEqProofs only [go_sem] at w89);cases h;simp -implicitDefEqProofs only [go_sem,X62_7,k62_7,w85,b87,w89]
noncomputable def X62_5 (s51:Int)(a0:Spp)(p5:Int)(x53:(List (List Int)))(p59:Int)(o:(Unit ⊕ Unit)):Ex×Fr×St :=
 match o with
 | .inl o=>(.exit 2,frOf 47 (upd (upd (upd (upd anyF 1 (.ptr 0 0 0)) 13 (.ts .imm 1 (a0.ranked.map (nLLI .imm)))) 14 (nI p5)) 15 (nI s51)),[some ⟨.box,1,[[.ts .imm 1 (a0.ranked.map (nLLI .imm))]]⟩])
 | .inr o=>(.ret,frOf 47 (upd anyF 2 (.bool false)),[])
noncomputable def E62_5 (s51:Int)(a0:Spp)(p5:Int)(x53:(List (List Int)))(p59:Int)(s:Int):Fr×St:=(frOf 47 (upd (upd (upd (upd (upd (upd (upd (upd anyF 1 (.ptr 0 0 0)) 3 (nI s51)) 13 (.ts .imm 1 (a0.ranked.map (nLLI .imm)))) 14 (nI p5)) 15 (nI s51)) 23 (.ts .imm 1 (x53.map (nLIn .imm)))) 24 (nI p59)) 25 (nI s)),[some ⟨.box,1,[[.ts .imm 1 (a0.ranked.map (nLLI .imm))]]⟩])
theorem b62_5 (s51:Int)(a0:Spp)(p5:Int)(x53:(List (List Int)))(p59:Int)(s:Int)(o:Ctl Int (Unit ⊕ Unit))(h:m62_5b s51 a0 x53 p59 s=some o):evCL T 0 k62_5b (E62_5 s51 a0 p5 x53 p59 s).1 (E62_5 s51 a0 p5 x53 p59 s).2=some (ctlX (E62_5 s51 a0 p5 x53 p59) (X62_5 s51 a0 p5 x53 p59) o):=by
 unfold m62_5b at h
 revert h
 generalize s=s77;intro h;try simp -implicitDefEqProofs only [go_sem,E62_5,X62_5,k62_5b]
 rcases brx h with ⟨b78,h⟩|⟨b78,h⟩
 · cases h;simp -implicitDefEqProofs only [go_sem,E62_5,X62_5,k62_5b,b78]
 · obtain ⟨x79,g81,g82,g83,h⟩:=bidx (nLIn .imm) h;obtain ⟨v93,w92,h⟩:=bcall (e62_7 s51 s77 x79 a0 p5 x53 p59) h;(try simp -implicitDefEqProofs only [go_sem] at g82 g83);simp only [X62_7] at w92;(try simp -implicitDefEqProofs only [go_sem] at w92);try simp -implicitDefEqProofs only [go_sem,E62_5,X62_5,k62_5b,b78,g81,g82,g83,w92]
   rcases brx h with ⟨b94,h⟩|⟨b94,h⟩
   · cases h;simp -implicitDefEqProofs only [go_sem,E62_5,X62_5,k62_5b,b78,g81,g82,g83,w92,b94]
   · cases h;simp -implicitDefEqProofs only [go_sem,E62_5,X62_5,k62_5b,b78,g81,g82,g83,w92,b94]
theorem e62_5 (s51:Int)(a0:Spp)(p5:Int)(x53:(List (List Int)))(p59:Int)(s:Int)(o:(Unit ⊕ Unit))(h:loopP (m62_5b s51 a0 x53 p59) s=some o):evCL T 0 (.loop k62_5b) (E62_5 s51 a0 p5 x53 p59 s).1 (E62_5 s51 a0 p5 x53 p59 s).2=some (X62_5 s51 a0 p5 x53 p59 o) :=
 loop_walk (E:=E62_5 s51 a0 p5 x53 p59) (X:=X62_5 s51 a0 p5 x53 p59) (by intro b;rcases b with b | b<;>(simp only [X62_5];nofun)) (b62_5 s51 a0 p5 x53 p59) s o h
noncomputable def X62_1 (a0:Spp)(p5:Int)(o:(Unit ⊕ Unit)):Ex×Fr×St :=
 match o with
 | .inl o=>(.exit 0,frOf 47 (anyF),[])
 | .inr o=>(.ret,frOf 47 (upd anyF 2 (.bool false)),[])
noncomputable def E62_1 (a0:Spp)(p5:Int)(s:Int):Fr×St:=(frOf 47 (upd (upd (upd (upd anyF 1 (.ptr 0 0 0)) 13 (.ts .imm 1 (a0.ranked.map (nLLI .imm)))) 14 (nI p5)) 15 (nI s)),[some ⟨.box,1,[[.ts .imm 1 (a0.ranked.map (nLLI .imm))]]⟩])
theorem b62_1 (a0:Spp)(p5:Int)(s:Int)(o:Ctl Int (Unit ⊕ Unit))(h:m62_1b a0 p5 s=some o):evCL T 0 k62_1b (E62_1 a0 p5 s).1 (E62_1 a0 p5 s).2=some (ctlX (E62_1 a0 p5) (X62_1 a0 p5) o):=by
 unfold m62_1b at h
 revert h
 generalize s=s51;intro h;try simp -implicitDefEqProofs only [go_sem,E62_1,X62_1,k62_1b]
 rcases brx h with ⟨b52,h⟩|⟨b52,h⟩
 · cases h;simp -implicitDefEqProofs only [go_sem,E62_1,X62_1,k62_1b,b52]
 · obtain ⟨x53,g55,g56,g57,h⟩:=bidx (nLLI .imm) h;(try simp -implicitDefEqProofs only [go_sem] at g56 g57);try simp -implicitDefEqProofs only [go_sem,E62_1,X62_1,k62_1b,b52,g55,g56,g57]
   rcases brx h with ⟨b58,h⟩|⟨b58,h⟩
   · (try simp -implicitDefEqProofs only [go_sem,E62_1,X62_1,k62_1b,b52,g55,g56,g57,b58]);obtain ⟨o,q95,h⟩:=bnd_some h
     rcases o with ⟨⟩|⟨⟩
     · replace h:=selS_l h;have w96:=e62_5 s51 a0 p5 x53 (↑x53.length:Int) 0 (.inl ()) q95;simp only [E62_5,X62_5] at w96;(try simp -implicitDefEqProofs only [go_sem] at w96);cases h;simp -implicitDefEqProofs only [go_sem,E62_1,X62_1,k62_1b,b52,g55,g56,g57,b58,w96]
     · replace h:=selS_r h;have w96:=e62_5 s51 a0 p5 x53 (↑x53.length:Int) 0 (.inr ()) q95;simp only [E62_5,X62_5] at w96;(try simp -implicitDefEqProofs only [go_sem] at w96);cases h;simp -implicitDefEqProofs only [go_sem,E62_1,X62_1,k62_1b,b52,g55,g56,g57,b58,w96]
   · cases h;simp -implicitDefEqProofs only [go_sem,E62_1,X62_1,k62_1b,b52,g55,g56,g57,b58]
theorem e62_1 (a0:Spp)(p5:Int)(s:Int)(o:(Unit ⊕ Unit))(h:loopP (m62_1b a0 p5) s=some o):evCL T 0 (.loop k62_1b) (E62_1 a0 p5 s).1 (E62_1 a0 p5 s).2=some (X62_1 a0 p5 o) :=
 loop_walk (E:=E62_1 a0 p5) (X:=X62_1 a0 p5) (by intro b;rcases b with b | b<;>(simp only [X62_1];nofun)) (b62_1 a0 p5) s o h
theorem e62 (a0:Spp)(r:Bool)(h:m62 a0=some r):evFL T 62 [.agg [.ts .imm 1 (a0.ranked.map (nLLI .imm))]] []=some (.bool r,[]):=by
 unfold m62 at h;rw [evFL_at fn62 (Nat.le_of_ble_eq_true rfl) rfl (.inr rfl) ⟨rfl,rfl⟩];obtain ⟨r3,w2,h⟩:=bcall (e39 (↑a0.ranked.length:Int) 1 5) h;(try simp -implicitDefEqProofs only [go_sem] at w2);try simp -implicitDefEqProofs only [go_sem,i62,c62,w2]
 rcases brx h with ⟨b4,h⟩|⟨b4,h⟩
 · cases h;simp -implicitDefEqProofs only [go_sem,i62,c62,w2,b4]
 · (try simp -implicitDefEqProofs only [go_sem,i62,c62,w2,b4]);obtain ⟨o,q97,h⟩:=bnd_some h
   rcases o with ⟨⟩|⟨⟩
   · replace h:=selS_l h;have w98:=e62_1 a0 (↑a0.ranked.length:Int) 0 (.inl ()) q97;simp only [E62_1,X62_1] at w98;(try simp -implicitDefEqProofs only [go_sem] at w98);cases h;simp -implicitDefEqProofs only [go_sem,i62,c62,w2,b4,w98]
   · replace h:=selS_r h;have w98:=e62_1 a0 (↑a0.ranked.length:Int) 0 (.inr ()) q97;simp only [E62_1,X62_1] at w98;(try simp -implicitDefEqProofs only [go_sem] at w98);cases h;simp -implicitDefEqProofs only [go_sem,i62,c62,w2,b4,w98]
theorem call29 (args:List AV)(S:St):evCall T (evFL T) 29 args S=treeC false (evFL T 29) S args (lendAll S [[0],[3]] args):=evCallT fn29 rfl rfl rfl args S
theorem calls29 (args:List AV)(S:St):evCall (T.at true) (evFL T) 29 args S=treeC true (evFL T 29) S args (lendAll S [[0],[3]] args):=evCallT fns29 rfl rfl rfl args S
attribute [go_sem] call29 calls29
noncomputable def X29_15 (a0:Int)(a1:List Rel)(s97:Int)(s145:List (List Int))(x148:List Int)(s166:Int)(r102:List (List Int))(p103:Int)(s146:Int)(s98:List (List (List Int)))(o:Bool):Ex×Fr×St :=
 (.normal,frOf 74 (upd (upd (upd (upd (upd (upd (upd (upd (upd (upd (upd (upd anyF 0 (nI a0)) 1 (.ts .imm 3 (a1.map nRel))) 4 (.ptr 0 0 0)) 6 (.ptr 2 0 0)) 7 (nI s97)) 8 (.ts .imm 1 (s145.map (nLIn .imm)))) 10 (.ts .imm 1 (x148.map nInt))) 11 (nI s166)) 27 (.ts .imm 1 (r102.map (nLIn .imm)))) 28 (nI p103)) 29 (nI s146)) 45 (.bool o)),[some ⟨.box,1,[[.sl 1 0 0]]⟩,some ⟨.arr,1,[]⟩,some ⟨.box,1,[[.sl 3 0 s98.length]]⟩,some ⟨.arr,1,s98.map (nLLI .imm)⟩])
theorem e29_15 (a0:Int)(a1:List Rel)(s97:Int)(s145:List (List Int))(x148:List Int)(s166:Int)(r102:List (List Int))(p103:Int)(s146:Int)(s98:List (List (List Int)))(o:Bool)(h:m29_15 a1 s145 x148 s166=some o):evCL T 0 k29_15 (frOf 74 (upd (upd (upd (upd (upd (upd (upd (upd (upd (upd (upd anyF 0 (nI a0)) 1 (.ts .imm 3 (a1.map nRel))) 4 (.ptr 0 0 0)) 6 (.ptr 2 0 0)) 7 (nI s97)) 8 (.ts .imm 1 (s145.map (nLIn .imm)))) 10 (.ts .imm 1 (x148.map nInt))) 11 (nI s166)) 27 (.ts .imm 1 (r102.map (nLIn .imm)))) 28 (nI p103)) 29 (nI s146))) [some ⟨.box,1,[[.sl 1 0 0]]⟩,some ⟨.arr,1,[]⟩,some ⟨.box,1,[[.sl 3 0 s98.length]]⟩,some ⟨.arr,1,s98.map (nLLI .imm)⟩]=some (X29_15 a0 a1 s97 s145 x148 s166 r102 p103 s146 s98 o):=by
 unfold m29_15 at h;try simp -implicitDefEqProofs only [go_sem,X29_15,k29_15]
 rcases brx h with ⟨b167,h⟩|⟨b167,h⟩
 · cases h;simp -implicitDefEqProofs only [go_sem,X29_15,k29_15,b167]
 · obtain ⟨x168,g170,g171,g172,h⟩:=bidx (nLIn .imm) h;obtain ⟨r175,w174,h⟩:=bcall (e61 a1 x168 x148) h;(try simp -implicitDefEqProofs only [go_sem] at g171 g172 w174);cases h;simp -implicitDefEqProofs only [go_sem,X29_15,k29_15,b167,g170,g171,g172,w174]
noncomputable def X29_13 (a0:Int)(a1:List Rel)(s97:Int)(s145:List (List Int))(x148:List Int)(r102:List (List Int))(p103:Int)(s146:Int)(s98:List (List (List Int)))(o:Int):Ex×Fr×St :=
 (.exit 4,frOf 74 (upd (upd (upd (upd (upd (upd (upd (upd (upd (upd (upd anyF 0 (nI a0)) 1 (.ts .imm 3 (a1.map nRel))) 4 (.ptr 0 0 0)) 6 (.ptr 2 0 0)) 7 (nI s97)) 8 (.ts .imm 1 (s145.map (nLIn .imm)))) 10 (.ts .imm 1 (x148.map nInt))) 11 (nI o)) 27 (.ts .imm 1 (r102.map (nLIn .imm)))) 28 (nI p103)) 29 (nI s146)),[some ⟨.box,1,[[.sl 1 0 0]]⟩,some ⟨.arr,1,[]⟩,some ⟨.box,1,[[.sl 3 0 s98.length]]⟩,some ⟨.arr,1,s98.map (nLLI .imm)⟩])
noncomputable def E29_13 (a0:Int)(a1:List Rel)(s97:Int)(s145:List (List Int))(x148:List Int)(r102:List (List Int))(p103:Int)(s146:Int)(s98:List (List (List Int)))(s:Int):Fr×St:=(frOf 74 (upd (upd (upd (upd (upd (upd (upd (upd (upd (upd (upd anyF 0 (nI a0)) 1 (.ts .imm 3 (a1.map nRel))) 4 (.ptr 0 0 0)) 6 (.ptr 2 0 0)) 7 (nI s97)) 8 (.ts .imm 1 (s145.map (nLIn .imm)))) 10 (.ts .imm 1 (x148.map nInt))) 11 (nI s)) 27 (.ts .imm 1 (r102.map (nLIn .imm)))) 28 (nI p103)) 29 (nI s146)),[some ⟨.box,1,[[.sl 1 0 0]]⟩,some ⟨.arr,1,[]⟩,some ⟨.box,1,[[.sl 3 0 s98.length]]⟩,some ⟨.arr,1,s98.map (nLLI .imm)⟩])
theorem b29_13 (a0:Int)(a1:List Rel)(s97:Int)(s145:List (List Int))(x148:List Int)(r102:List (List Int))(p103:Int)(s146:Int)(s98:List (List (List Int)))(s:Int)(o:Ctl Int Int)(h:m29_13b a1 s145 x148 s=some o):evCL T 0 k29_13b (E29_13 a0 a1 s97 s145 x148 r102 p103 s146 s98 s).1 (E29_13 a0 a1 s97 s145 x148 r102 p103 s146 s98 s).2=some (ctlX (E29_13 a0 a1 s97 s145 x148 r102 p103 s146 s98) (X29_13 a0 a1 s97 s145 x148 r102 p103 s146 s98) o):=by
 unfold m29_13b at h
 revert h
 generalize s=s166;intro h;obtain ⟨v178,w177,h⟩:=bcall (e29_15 a0 a1 s97 s145 x148 s166 r102 p103 s146 s98) h;simp only [X29_15] at w177;(try simp -implicitDefEqProofs only [go_sem] at w177);try simp -implicitDefEqProofs only [go_sem,E29_13,X29_13,k29_13b,w177]
 rcases brx h with ⟨b179,h⟩|⟨b179,h⟩
 · cases h;simp -implicitDefEqProofs only [go_sem,E29_13,X29_13,k29_13b,w177,b179]
 · cases h;simp -implicitDefEqProofs only [go_sem,E29_13,X29_13,k29_13b,w177,b179]
theorem e29_13 (a0:Int)(a1:List Rel)(s97:Int)(s145:List (List Int))(x148:List Int)(r102:List (List Int))(p103:Int)(s146:Int)(s98:List (List (List Int)))(s:Int)(o:Int)(h:loopP (m29_13b a1 s145 x148) s=some o):evCL T 0 (.loop k29_13b) (E29_13 a0 a1 s97 s145 x148 r102 p103 s146 s98 s).1 (E29_13 a0 a1 s97 s145 x148 r102 p103 s146 s98 s).2=some (X29_13 a0 a1 s97 s145 x148 r102 p103 s146 s98 o) :=
 loop_walk (E:=E29_13 a0 a1 s97 s145 x148 r102 p103 s146 s98) (X:=X29_13 a0 a1 s97 s145 x148 r102 p103 s146 s98) (by intro b;(simp only [X29_13];nofun)) (b29_13 a0 a1 s97 s145 x148 r102 p103 s146 s98) s o h
noncomputable def X29_9 (a0:Int)(a1:List Rel)(s97:Int)(r102:List (List Int))(p103:Int)(s98:List (List (List Int)))(o:(List (List Int))):Ex×Fr×St :=
 (.exit 2,frOf 74 (upd (upd (upd (upd (upd (upd anyF 0 (nI a0)) 1 (.ts .imm 3 (a1.map nRel))) 4 (.ptr 0 0 0)) 6 (.ptr 2 0 0)) 7 (nI s97)) 8 (.ts .imm 1 (o.map (nLIn .imm)))),[some ⟨.box,1,[[.sl 1 0 0]]⟩,some ⟨.arr,1,[]⟩,some ⟨.box,1,[[.sl 3 0 s98.length]]⟩,some ⟨.arr,1,s98.map (nLLI .imm)⟩])
noncomputable def E29_9 (a0:Int)(a1:List Rel)(s97:Int)(r102:List (List Int))(p103:Int)(s98:List (List (List Int)))(s:(List (List Int)×Int)):Fr×St:=(frOf 74 (upd (upd (upd (upd (upd (upd (upd (upd (upd anyF 0 (nI a0)) 1 (.ts .imm 3 (a1.map nRel))) 4 (.ptr 0 0 0)) 6 (.ptr 2 0 0)) 7 (nI s97)) 8 (.ts .imm 1 (s.1.map (nLIn .imm)))) 27 (.ts .imm 1 (r102.map (nLIn .imm)))) 28 (nI p103)) 29 (nI s.2)),[some ⟨.box,1,[[.sl 1 0 0]]⟩,some ⟨.arr,1,[]⟩,some ⟨.box,1,[[.sl 3 0 s98.length]]⟩,some ⟨.arr,1,s98.map (nLLI .imm)⟩])
theorem b29_9 (a0:Int)(a1:List Rel)(s97:Int)(r102:List (List Int))(p103:Int)(s98:List (List (List Int)))(s:(List (List Int)×Int))(o:Ctl (List (List Int)×Int) (List (List Int)))(h:m29_9b a1 r102 p103 s=some o):evCL T 0 k29_9b (E29_9 a0 a1 s97 r102 p103 s98 s).1 (E29_9 a0 a1 s97 r102 p103 s98 s).2=some (ctlX (E29_9 a0 a1 s97 r102 p103 s98) (X29_9 a0 a1 s97 r102 p103 s98) o):=by
 unfold m29_9b at h;obtain ⟨s145,s146⟩:=s;replace h:=sel2_some h;try simp -implicitDefEqProofs only [go_sem,E29_9,X29_9,k29_9b]
 rcases brx h with ⟨b147,h⟩|⟨b147,h⟩
 · cases h;simp -implicitDefEqProofs only [go_sem,E29_9,X29_9,k29_9b,b147]
 · obtain ⟨x148,g150,g151,g152,h⟩:=bidx (nLIn .imm) h;obtain ⟨v182,w181,h⟩:=bcall (e29_13 a0 a1 s97 s145 x148 r102 p103 s146 s98 0) h;(try simp -implicitDefEqProofs only [go_sem] at g151 g152);simp only [E29_13,X29_13] at w181;(try simp -implicitDefEqProofs only [go_sem] at w181);obtain ⟨g183,h⟩:=ck_some h;(try simp -implicitDefEqProofs only [go_sem] at g183);obtain ⟨g184,h⟩:=ck_some h;(try simp -implicitDefEqProofs only [go_sem] at g184);obtain ⟨g185,h⟩:=ck_some h;(try simp -implicitDefEqProofs only [go_sem] at g185);obtain ⟨g186,h⟩:=ck_some h;(try simp -implicitDefEqProofs only [go_sem] at g186);obtain ⟨g187,h⟩:=ck_some h;(try simp -implicitDefEqProofs only [go_sem] at g187);cases h;simp -implicitDefEqProofs only [go_sem,E29_9,X29_9,k29_9b,b147,g150,g151,g152,w181,g183,g184,g185,g186,g187]
theorem e29_9 (a0:Int)(a1:List Rel)(s97:Int)(r102:List (List Int))(p103:Int)(s98:List (List (List Int)))(s:(List (List Int)×Int))(o:(List (List Int)))(h:loopP (m29_9b a1 r102 p103) s=some o):evCL T 0 (.loop k29_9b) (E29_9 a0 a1 s97 r102 p103 s98 s).1 (E29_9 a0 a1 s97 r102 p103 s98 s).2=some (X29_9 a0 a1 s97 r102 p103 s98 o) :=
 loop_walk (E:=E29_9 a0 a1 s97 r102 p103 s98) (X:=X29_9 a0 a1 s97 r102 p103 s98) (by intro b;(simp only [X29_9];nofun)) (b29_9 a0 a1 s97 r102 p103 s98) s o h
noncomputable def X29_1 (a0:Int)(a1:List Rel)(o:(List (List (List Int)))):Ex×Fr×St :=
 (.exit 0,frOf 74 (upd (upd anyF 4 (.ptr 0 0 0)) 6 (.ptr 2 0 0)),[some ⟨.box,1,[[.sl 1 0 0]]⟩,some ⟨.arr,1,[]⟩,some ⟨.box,1,[[.sl 3 0 o.length]]⟩,some ⟨.arr,1,o.map (nLLI .imm)⟩])
noncomputable def E29_1 (a0:Int)(a1:List Rel)(s:(Int×List (List (List Int)))):Fr×St:=(frOf 74 (upd (upd (upd (upd (upd anyF 0 (nI a0)) 1 (.ts .imm 3 (a1.map nRel))) 4 (.ptr 0 0 0)) 6 (.ptr 2 0 0)) 7 (nI s.1)),[some ⟨.box,1,[[.sl 1 0 0]]⟩,some ⟨.arr,1,[]⟩,some ⟨.box,1,[[.sl 3 0 s.2.length]]⟩,some ⟨.arr,1,s.2.map (nLLI .imm)⟩])
theorem b29_1 (a0:Int)(a1:List Rel)(s:(Int×List (List (List Int))))(o:Ctl (Int×List (List (List Int))) (List (List (List Int))))(h:m29_1b a0 a1 s=some o):evCL T 0 k29_1b (E29_1 a0 a1 s).1 (E29_1 a0 a1 s).2=some (ctlX (E29_1 a0 a1) (X29_1 a0 a1) o):=by
 unfold m29_1b at h;obtain ⟨s97,s98⟩:=s;replace h:=sel2_some h;try simp -implicitDefEqProofs only [go_sem,E29_1,X29_1,k29_1b]
 rcases brx h with ⟨b99,h⟩|⟨b99,h⟩
 · cases h;simp -implicitDefEqProofs only [go_sem,E29_1,X29_1,k29_1b,b99]
 · obtain ⟨r102,w101,h⟩:=bcall (e60 a0 a1 [s97] []) h;obtain ⟨v190,w189,h⟩:=bcall (e29_9 a0 a1 s97 r102 (↑r102.length:Int) s98 ([],0)) h;(try simp -implicitDefEqProofs only [go_sem] at w101);simp only [E29_9,X29_9] at w189;(try simp -implicitDefEqProofs only [go_sem] at w189);obtain ⟨g191,h⟩:=ck_some h;(try simp -implicitDefEqProofs only [go_sem] at g191);cases h;simp -implicitDefEqProofs only [go_sem,E29_1,X29_1,k29_1b,b99,w101,w189,g191]
theorem e29_1 (a0:Int)(a1:List Rel)(s:(Int×List (List (List Int))))(o:(List (List (List Int))))(h:loopP (m29_1b a0 a1) s=some o):evCL T 0 (.loop k29_1b) (E29_1 a0 a1 s).1 (E29_1 a0 a1 s).2=some (X29_1 a0 a1 o) :=
 loop_walk (E:=E29_1 a0 a1) (X:=X29_1 a0 a1) (by intro b;(simp only [X29_1];nofun)) (b29_1 a0 a1) s o h
theorem e29 (a0:Int)(a1:List Rel)(r:(Spp×Bool))(h:m29 a0 a1=some r):evFL T 29 [nI a0,.ts .imm 3 (a1.map nRel)] []=some (.tup [.agg [.ts .imm 1 (r.1.ranked.map (nLLI .imm))],.bool r.2],[]):=by
 unfold m29 at h;rw [evFL_at fn29 (Nat.le_of_ble_eq_true rfl) rfl (.inr rfl) ⟨rfl,rfl⟩];obtain ⟨r3,w2,h⟩:=bcall (e12 a0 a1) h;(try simp -implicitDefEqProofs only [go_sem] at w2);try simp -implicitDefEqProofs only [go_sem,i29,c29,w2]
 rcases brx h with ⟨b4,h⟩|⟨b4,h⟩
 · cases h;simp -implicitDefEqProofs only [go_sem,i29,c29,w2,b4]
 · obtain ⟨v194,w193,h⟩:=bcall (e29_1 a0 a1 (1,[])) h;simp only [E29_1,X29_1] at w193;obtain ⟨r197,w196,h⟩:=bcall (e62 (⟨v194⟩:Spp)) h;(try simp -implicitDefEqProofs only [go_sem] at w193 w196);try simp -implicitDefEqProofs only [go_sem,i29,c29,w2,b4,w193,w196]
   rcases brx h with ⟨b198,h⟩|⟨b198,h⟩
   · cases h;simp -implicitDefEqProofs only [go_sem,i29,c29,w2,b4,w193,w196,b198]
   · cases h;simp -implicitDefEqProofs only [go_sem,i29,c29,w2,b4,w193,w196,b198]
@[go_sem] theorem call41:CL 41 [[0],[0],[0]]:=evCall0 fn41 rfl rfl rfl
noncomputable def X41_1 (a0:Int)(a1:Int)(a2:Int)(o:Bool):Ex×Fr×St :=
 (.normal,frOf 15 (upd anyF 6 (.bool o)),[])
theorem e41_1 (a0:Int)(a1:Int)(a2:Int)(o:Bool)(h:m41_1 a0 a1 a2=some o):evCL T 0 k41_1 (frOf 15 (upd (upd (upd anyF 0 (nI a0)) 1 (nI a1)) 2 (nI a2))) []=some (X41_1 a0 a1 a2 o):=by
 unfold m41_1 at h;try simp -implicitDefEqProofs only [go_sem,X41_1,k41_1]
 rcases brx h with ⟨b1,h⟩|⟨b1,h⟩
 · cases h;simp -implicitDefEqProofs only [go_sem,X41_1,k41_1,b1]
 · cases h;simp -implicitDefEqProofs only [go_sem,X41_1,k41_1,b1]
theorem e41 (a0:Int)(a1:Int)(a2:Int)(r:Bool)(h:m41 a0 a1 a2=some r):evFL T 41 [nI a0,nI a1,nI a2] []=some (.bool r,[]):=by
 unfold m41 at h;rw [evFL_at fn41 (Nat.le_of_ble_eq_true rfl) rfl (.inr rfl) ⟨rfl,rfl⟩];obtain ⟨v4,w3,h⟩:=bcall (e41_1 a0 a1 a2) h;simp only [X41_1] at w3;(try simp -implicitDefEqProofs only [go_sem] at w3);cases h;simp -implicitDefEqProofs only [go_sem,i41,c41,w3]
@[go_sem] theorem call70:CL 70 [[3],[0]]:=evCall0 fn70 rfl rfl rfl
noncomputable def X70_1 (a1_f:Nat)(a1_c:List AV)(a0:List Rel)(p1:Int)(a1:(Rel→Option Bool))(o:(Unit ⊕ Int)):Ex×Fr×St :=
 match o with
 | .inl o=>(.exit 0,frOf 19 (anyF),[])
 | .inr o=>(.ret,frOf 19 (upd anyF 4 (nI o)),[])
noncomputable def E70_1 (a1_f:Nat)(a1_c:List AV)(a0:List Rel)(p1:Int)(a1:(Rel→Option Bool))(s:Int):Fr×St:=(frOf 19 (upd (upd (upd (upd anyF 0 (.ts .imm 3 (a0.map nRel))) 1 (.fn a1_f a1_c)) 7 (nI p1)) 8 (nI s)),[])
theorem b70_1 (a0:List Rel)(p1:Int)(a1:(Rel→Option Bool))(a1_f:Nat)(a1_c:List AV)(a1_h:capOk a1_c∧∀y0 r,a1 y0=some r→clR a1_f a1_c [.agg (nRel y0)] (.bool r))(s:Int)(o:Ctl Int (Unit ⊕ Int))(h:m70_1b a0 p1 a1 s=some o):evCL T 0 k70_1b (E70_1 a1_f a1_c a0 p1 a1 s).1 (E70_1 a1_f a1_c a0 p1 a1 s).2=some (ctlX (E70_1 a1_f a1_c a0 p1 a1) (X70_1 a1_f a1_c a0 p1 a1) o):=by
 unfold m70_1b at h
 revert h
 generalize s=s12;intro h;try simp -implicitDefEqProofs only [go_sem,E70_1,X70_1,k70_1b,a1_h.1]
 rcases brx h with ⟨b13,h⟩|⟨b13,h⟩
 · cases h;simp -implicitDefEqProofs only [go_sem,E70_1,X70_1,k70_1b,a1_h.1,b13]
 · obtain ⟨x14,g16,g17,g18,h⟩:=bidx nRel h;obtain ⟨r19,w21,h⟩:=bcall (a1_h.2 x14) h;(try simp -implicitDefEqProofs only [go_sem] at g17 g18 w21);try simp -implicitDefEqProofs only [go_sem,E70_1,X70_1,k70_1b,a1_h.1,b13,g16,g17,g18,w21.1,w21.2]
   rcases brx h with ⟨b22,h⟩|⟨b22,h⟩
   · cases h;simp -implicitDefEqProofs only [go_sem,E70_1,X70_1,k70_1b,a1_h.1,b13,g16,g17,g18,w21.1,w21.2,b22]
   · cases h;simp -implicitDefEqProofs only [go_sem,E70_1,X70_1,k70_1b,a1_h.1,b13,g16,g17,g18,w21.1,w21.2,b22]
theorem e70_1 (a0:List Rel)(p1:Int)(a1:(Rel→Option Bool))(a1_f:Nat)(a1_c:List AV)(a1_h:capOk a1_c∧∀y0 r,a1 y0=some r→clR a1_f a1_c [.agg (nRel y0)] (.bool r))(s:Int)(o:(Unit ⊕ Int))(h:loopP (m70_1b a0 p1 a1) s=some o):evCL T 0 (.loop k70_1b) (E70_1 a1_f a1_c a0 p1 a1 s).1 (E70_1 a1_f a1_c a0 p1 a1 s).2=some (X70_1 a1_f a1_c a0 p1 a1 o) :=
 loop_walk (E:=E70_1 a1_f a1_c a0 p1 a1) (X:=X70_1 a1_f a1_c a0 p1 a1) (by intro b;rcases b with b | b<;>(simp only [X70_1];nofun)) (b70_1 a0 p1 a1 a1_f a1_c a1_h) s o h
theorem e70 (a0:List Rel)(a1:(Rel→Option Bool))(a1_f:Nat)(a1_c:List AV)(a1_h:capOk a1_c∧∀y0 r,a1 y0=some r→clR a1_f a1_c [.agg (nRel y0)] (.bool r))(r:Int)(h:m70 a0 a1=some r):evFL T 70 [.ts .imm 3 (a0.map nRel),.fn a1_f a1_c] []=some (nI r,[]):=by
 unfold m70 at h;rw [evFL_at fn70 (Nat.le_of_ble_eq_true rfl) rfl (.inr rfl) ⟨rfl,rfl⟩];(try simp -implicitDefEqProofs only [go_sem,i70,c70,a1_h.1]);obtain ⟨o,q23,h⟩:=bnd_some h
 rcases o with ⟨⟩|v25
 · replace h:=selS_l h;have w24:=e70_1 a0 (↑a0.length:Int) a1 a1_f a1_c a1_h 0 (.inl ()) q23;simp only [E70_1,X70_1] at w24;(try simp -implicitDefEqProofs only [go_sem] at w24);cases h;simp -implicitDefEqProofs only [go_sem,i70,c70,a1_h.1,w24]
 · replace h:=selS_r h;have w24:=e70_1 a0 (↑a0.length:Int) a1 a1_f a1_c a1_h 0 (.inr v25) q23;simp only [E70_1,X70_1] at w24;(try simp -implicitDefEqProofs only [go_sem] at w24);cases h;simp -implicitDefEqProofs only [go_sem,i70,c70,a1_h.1,w24]
@[go_sem] theorem call42:CL 42 [[3],[0]]:=evCall0 fn42 rfl rfl rfl
theorem e42 (a0:List Rel)(a1:(Rel→Option Bool))(a1_f:Nat)(a1_c:List AV)(a1_h:capOk a1_c∧∀y0 r,a1 y0=some r→clR a1_f a1_c [.agg (nRel y0)] (.bool r))(r:Bool)(h:m42 a0 a1=some r):evFL T 42 [.ts .imm 3 (a0.map nRel),.fn a1_f a1_c] []=some (.bool r,[]):=by
 unfold m42 at h;rw [evFL_at fn42 (Nat.le_of_ble_eq_true rfl) rfl (.inr rfl) ⟨rfl,rfl⟩];obtain ⟨r3,w2,h⟩:=bcall (e70 a0 a1 a1_f a1_c a1_h) h;(try simp -implicitDefEqProofs only [go_sem] at w2);cases h;simp -implicitDefEqProofs only [go_sem,i42,c42,a1_h.1,w2]
theorem call43:CL 43 [[0,0,0],[0]]:=evCall0 fn43 rfl rfl rfl
theorem callz43:CZ 43 [[0]] [[0,0,0],[0]]:=evCallFz0 fn43 rfl rfl rfl
attribute [go_sem] call43 callz43
noncomputable def X43_1 (a1:Rel)(a0:Rel)(o:Bool):Ex×Fr×St :=
 (.normal,frOf 16 (upd anyF 3 (.bool o)),[])
theorem e43_1 (a1:Rel)(a0:Rel)(o:Bool)(h:m43_1 a1 a0=some o):evCL T 0 k43_1 (frOf 16 (upd (upd anyF 1 (.tp .imm 3 [(nRel a1)] 0 0)) 2 (.ptr 0 0 0))) [some ⟨.box,3,[(nRel a0)]⟩]=some (X43_1 a1 a0 o):=by
 unfold m43_1 at h;try simp -implicitDefEqProofs only [go_sem,X43_1,k43_1]
 rcases brx h with ⟨b1,h⟩|⟨b1,h⟩
 · cases h;simp -implicitDefEqProofs only [go_sem,X43_1,k43_1,b1]
 · cases h;simp -implicitDefEqProofs only [go_sem,X43_1,k43_1,b1]
theorem e43 (a0:Rel)(a1:Rel)(r:Bool)(h:m43 a0 a1=some r):evFL T 43 [.agg [nI a0.a,nI a0.b,nI a0.kind],.tp .imm 3 [[nI a1.a,nI a1.b,nI a1.kind]] 0 0] []=some (.bool r,[]):=by
 unfold m43 at h;rw [evFL_at fn43 (Nat.le_of_ble_eq_true rfl) rfl (.inr rfl) ⟨rfl,rfl⟩];obtain ⟨v4,w3,h⟩:=bcall (e43_1 a1 a0) h;simp only [X43_1] at w3;(try simp -implicitDefEqProofs only [go_sem] at w3);cases h;simp -implicitDefEqProofs only [go_sem,i43,c43,w3]
@[go_sem] theorem call14:CL 14 [[0],[3]]:=evCall0 fn14 rfl rfl rfl
noncomputable def X14_1 (a0:Int)(a1:List Rel)(o:Bool):Ex×Fr×St :=
 (.normal,frOf 50 (upd (upd (upd anyF 0 (nI a0)) 1 (.ts .imm 3 (a1.map nRel))) 14 (.bool o)),[])
theorem e14_1 (a0:Int)(a1:List Rel)(o:Bool)(h:m14_1 a0 a1=some o):evCL T 0 k14_1 (frOf 50 (upd (upd anyF 0 (nI a0)) 1 (.ts .imm 3 (a1.map nRel)))) []=some (X14_1 a0 a1 o):=by
 unfold m14_1 at h;obtain ⟨r3,w2,h⟩:=bcall (e41 a0 1 5) h;(try simp -implicitDefEqProofs only [go_sem] at w2);try simp -implicitDefEqProofs only [go_sem,X14_1,k14_1,w2]
 rcases brx h with ⟨b4,h⟩|⟨b4,h⟩
 · cases h;simp -implicitDefEqProofs only [go_sem,X14_1,k14_1,w2,b4]
 · cases h;simp -implicitDefEqProofs only [go_sem,X14_1,k14_1,w2,b4]
noncomputable def X14_4 (a0:Int)(a1:List Rel)(s36:Int)(p9:Int)(x38:Rel)(o:Bool):Ex×Fr×St :=
 (.normal,frOf 50 (upd (upd (upd (upd (upd (upd anyF 0 (nI a0)) 1 (.ts .imm 3 (a1.map nRel))) 15 (.ts .imm 3 (a1.map nRel))) 16 (nI p9)) 17 (nI s36)) 48 (.bool o)),[])
theorem e14_4 (a0:Int)(a1:List Rel)(s36:Int)(p9:Int)(x38:Rel)(o:Bool)(h:m14_4 a0 a1 s36 x38=some o):evCL T 0 k14_4 (frOf 50 (upd (upd (upd (upd (upd (upd (upd anyF 0 (nI a0)) 1 (.ts .imm 3 (a1.map nRel))) 5 (nI s36)) 6 (.ptr 0 0 0)) 15 (.ts .imm 3 (a1.map nRel))) 16 (nI p9)) 17 (nI s36))) [some ⟨.box,3,[(nRel x38)]⟩]=some (X14_4 a0 a1 s36 p9 x38 o):=by
 unfold m14_4 at h;obtain ⟨r45,w44,h⟩:=bcall (e41 x38.b 1 a0) h;(try simp -implicitDefEqProofs only [go_sem] at w44);try simp -implicitDefEqProofs only [go_sem,X14_4,k14_4,w44]
 rcases brx h with ⟨b46,h⟩|⟨b46,h⟩
 · cases h;simp -implicitDefEqProofs only [go_sem,X14_4,k14_4,w44,b46]
 · obtain ⟨r49,w48,h⟩:=bcall (e41 x38.a 0 (wsub .i64 x38.b 1)) h;(try simp -implicitDefEqProofs only [go_sem] at w48);try simp -implicitDefEqProofs only [go_sem,X14_4,k14_4,w44,b46,w48]
   rcases brx h with ⟨b50,h⟩|⟨b50,h⟩
   · cases h;simp -implicitDefEqProofs only [go_sem,X14_4,k14_4,w44,b46,w48,b50]
   · obtain ⟨r53,w52,h⟩:=bcall (e41 x38.kind 1 3) h;(try simp -implicitDefEqProofs only [go_sem] at w52);try simp -implicitDefEqProofs only [go_sem,X14_4,k14_4,w44,b46,w48,b50,w52]
     rcases brx h with ⟨b54,h⟩|⟨b54,h⟩
     · cases h;simp -implicitDefEqProofs only [go_sem,X14_4,k14_4,w44,b46,w48,b50,w52,b54]
     · obtain ⟨g55,h⟩:=ck_some h
       obtain ⟨r58,w57,h⟩:=bcall (e42 (a1.take s36.toNat) (fun y0=>m43 y0 x38) 43 [.tp .imm 3 [(nRel x38)] 0 0] ⟨⟨fun S=>by simp -implicitDefEqProofs only [go_sem],fun _ _ _ _ _ _=>by simp -implicitDefEqProofs only [go_sem]⟩,fun y0 r h=>⟨fun S=>by simp -implicitDefEqProofs only [go_sem,e43 y0 x38 r h],fun S=>by simp -implicitDefEqProofs only [go_sem,e43 y0 x38 r h]⟩⟩) h
       (try simp -implicitDefEqProofs only [go_sem] at g55 w57);cases h;simp -implicitDefEqProofs only [go_sem,X14_4,k14_4,w44,b46,w48,b50,w52,b54,g55,w57]
noncomputable def X14_2 (a0:Int)(a1:List Rel)(p9:Int)(o:(Unit ⊕ Unit)):Ex×Fr×St :=
 match o with
 | .inl o=>(.exit 0,frOf 50 (anyF),[])
 | .inr o=>(.ret,frOf 50 (upd anyF 4 (.bool false)),[])
noncomputable def E14_2 (a0:Int)(a1:List Rel)(p9:Int)(s:Int):Fr×St:=(frOf 50 (upd (upd (upd (upd (upd anyF 0 (nI a0)) 1 (.ts .imm 3 (a1.map nRel))) 15 (.ts .imm 3 (a1.map nRel))) 16 (nI p9)) 17 (nI s)),[])
theorem b14_2 (a0:Int)(a1:List Rel)(p9:Int)(s:Int)(o:Ctl Int (Unit ⊕ Unit))(h:m14_2b a0 a1 p9 s=some o):evCL T 0 k14_2b (E14_2 a0 a1 p9 s).1 (E14_2 a0 a1 p9 s).2=some (ctlX (E14_2 a0 a1 p9) (X14_2 a0 a1 p9) o):=by
 unfold m14_2b at h
 revert h
 generalize s=s36;intro h;try simp -implicitDefEqProofs only [go_sem,E14_2,X14_2,k14_2b]
 rcases brx h with ⟨b37,h⟩|⟨b37,h⟩
 · cases h;simp -implicitDefEqProofs only [go_sem,E14_2,X14_2,k14_2b,b37]
 · obtain ⟨x38,g40,g41,g42,h⟩:=bidx nRel h;obtain ⟨v61,w60,h⟩:=bcall (e14_4 a0 a1 s36 p9 x38) h;(try simp -implicitDefEqProofs only [go_sem] at g41 g42);simp only [X14_4] at w60;(try simp -implicitDefEqProofs only [go_sem] at w60);try simp -implicitDefEqProofs only [go_sem,E14_2,X14_2,k14_2b,b37,g40,g41,g42,w60]
   rcases brx h with ⟨b62,h⟩|⟨b62,h⟩
   · cases h;simp -implicitDefEqProofs only [go_sem,E14_2,X14_2,k14_2b,b37,g40,g41,g42,w60,b62]
   · cases h;simp -implicitDefEqProofs only [go_sem,E14_2,X14_2,k14_2b,b37,g40,g41,g42,w60,b62]
theorem e14_2 (a0:Int)(a1:List Rel)(p9:Int)(s:Int)(o:(Unit ⊕ Unit))(h:loopP (m14_2b a0 a1 p9) s=some o):evCL T 0 (.loop k14_2b) (E14_2 a0 a1 p9 s).1 (E14_2 a0 a1 p9 s).2=some (X14_2 a0 a1 p9 o) :=
 loop_walk (E:=E14_2 a0 a1 p9) (X:=X14_2 a0 a1 p9) (by intro b;rcases b with b | b<;>(simp only [X14_2];nofun)) (b14_2 a0 a1 p9) s o h
theorem e14 (a0:Int)(a1:List Rel)(r:Bool)(h:m14 a0 a1=some r):evFL T 14 [nI a0,.ts .imm 3 (a1.map nRel)] []=some (.bool r,[]):=by
 unfold m14 at h;rw [evFL_at fn14 (Nat.le_of_ble_eq_true rfl) rfl (.inr rfl) ⟨rfl,rfl⟩];obtain ⟨v7,w6,h⟩:=bcall (e14_1 a0 a1) h;simp only [X14_1] at w6;(try simp -implicitDefEqProofs only [go_sem] at w6);try simp -implicitDefEqProofs only [go_sem,i14,c14,w6]
 rcases brx h with ⟨b8,h⟩|⟨b8,h⟩
 · (try simp -implicitDefEqProofs only [go_sem,i14,c14,w6,b8]);obtain ⟨o,q63,h⟩:=bnd_some h
   rcases o with ⟨⟩|⟨⟩
   · replace h:=selS_l h;have w64:=e14_2 a0 a1 (↑a1.length:Int) 0 (.inl ()) q63;simp only [E14_2,X14_2] at w64;(try simp -implicitDefEqProofs only [go_sem] at w64);cases h;simp -implicitDefEqProofs only [go_sem,i14,c14,w6,b8,w64]
   · replace h:=selS_r h;have w64:=e14_2 a0 a1 (↑a1.length:Int) 0 (.inr ()) q63;simp only [E14_2,X14_2] at w64;(try simp -implicitDefEqProofs only [go_sem] at w64);cases h;simp -implicitDefEqProofs only [go_sem,i14,c14,w6,b8,w64]
 · cases h;simp -implicitDefEqProofs only [go_sem,i14,c14,w6,b8]
theorem call46:CL 46 [[3],[0],[0]]:=evCall0 fn46 rfl rfl rfl
theorem callz46:CZ 46 [[0]] [[3],[0],[0]]:=evCallFz0 fn46 rfl rfl rfl
attribute [go_sem] call46 callz46
noncomputable def X46_4 (a1:Int)(a2:Int)(a0:List Rel)(p1:Int)(s18:Int)(x20:Rel)(o:Bool):Ex×Fr×St :=
 (.normal,frOf 41 (upd (upd (upd (upd (upd (upd (upd anyF 1 (nI a1)) 2 (nI a2)) 8 (.ptr 0 0 0)) 9 (.ts .imm 3 (a0.map nRel))) 10 (nI p1)) 11 (nI s18)) 24 (.bool o)),[some ⟨.box,3,[(nRel x20)]⟩])
theorem e46_4 (a1:Int)(a2:Int)(a0:List Rel)(p1:Int)(s18:Int)(x20:Rel)(o:Bool)(h:m46_4 a1 a2 x20=some o):evCL T 0 k46_4 (frOf 41 (upd (upd (upd (upd (upd (upd anyF 1 (nI a1)) 2 (nI a2)) 8 (.ptr 0 0 0)) 9 (.ts .imm 3 (a0.map nRel))) 10 (nI p1)) 11 (nI s18))) [some ⟨.box,3,[(nRel x20)]⟩]=some (X46_4 a1 a2 a0 p1 s18 x20 o):=by
 unfold m46_4 at h;try simp -implicitDefEqProofs only [go_sem,X46_4,k46_4]
 rcases brx h with ⟨b25,h⟩|⟨b25,h⟩
 · cases h;simp -implicitDefEqProofs only [go_sem,X46_4,k46_4,b25]
 · cases h;simp -implicitDefEqProofs only [go_sem,X46_4,k46_4,b25]
noncomputable def X46_5 (a1:Int)(a2:Int)(a0:List Rel)(p1:Int)(s18:Int)(x20:Rel)(o:Bool):Ex×Fr×St :=
 (.normal,frOf 41 (upd (upd (upd (upd (upd (upd (upd anyF 1 (nI a1)) 2 (nI a2)) 8 (.ptr 0 0 0)) 9 (.ts .imm 3 (a0.map nRel))) 10 (nI p1)) 11 (nI s18)) 36 (.bool o)),[some ⟨.box,3,[(nRel x20)]⟩])
theorem e46_5 (a1:Int)(a2:Int)(a0:List Rel)(p1:Int)(s18:Int)(x20:Rel)(o:Bool)(h:m46_5 a1 a2 x20=some o):evCL T 0 k46_5 (frOf 41 (upd (upd (upd (upd (upd (upd anyF 1 (nI a1)) 2 (nI a2)) 8 (.ptr 0 0 0)) 9 (.ts .imm 3 (a0.map nRel))) 10 (nI p1)) 11 (nI s18))) [some ⟨.box,3,[(nRel x20)]⟩]=some (X46_5 a1 a2 a0 p1 s18 x20 o):=by
 unfold m46_5 at h;try simp -implicitDefEqProofs only [go_sem,X46_5,k46_5]
 rcases brx h with ⟨b30,h⟩|⟨b30,h⟩
 · cases h;simp -implicitDefEqProofs only [go_sem,X46_5,k46_5,b30]
 · cases h;simp -implicitDefEqProofs only [go_sem,X46_5,k46_5,b30]
noncomputable def X46_1 (a1:Int)(a2:Int)(a0:List Rel)(p1:Int)(o:(Unit ⊕ Int)):Ex×Fr×St :=
 match o with
 | .inl o=>(.exit 0,frOf 41 (anyF),[])
 | .inr o=>(.ret,frOf 41 (upd anyF 6 (nI o)),[])
noncomputable def E46_1 (a1:Int)(a2:Int)(a0:List Rel)(p1:Int)(s:Int):Fr×St:=(frOf 41 (upd (upd (upd (upd (upd anyF 1 (nI a1)) 2 (nI a2)) 9 (.ts .imm 3 (a0.map nRel))) 10 (nI p1)) 11 (nI s)),[])
theorem b46_1 (a1:Int)(a2:Int)(a0:List Rel)(p1:Int)(s:Int)(o:Ctl Int (Unit ⊕ Int))(h:m46_1b a1 a2 a0 p1 s=some o):evCL T 0 k46_1b (E46_1 a1 a2 a0 p1 s).1 (E46_1 a1 a2 a0 p1 s).2=some (ctlX (E46_1 a1 a2 a0 p1) (X46_1 a1 a2 a0 p1) o):=by
 unfold m46_1b at h
 revert h
 generalize s=s18;intro h;try simp -implicitDefEqProofs only [go_sem,E46_1,X46_1,k46_1b]
 rcases brx h with ⟨b19,h⟩|⟨b19,h⟩
 · cases h;simp -implicitDefEqProofs only [go_sem,E46_1,X46_1,k46_1b,b19]
 · obtain ⟨x20,g22,g23,g24,h⟩:=bidx nRel h;obtain ⟨v28,w27,h⟩:=bcall (e46_4 a1 a2 a0 p1 s18 x20) h;(try simp -implicitDefEqProofs only [go_sem] at g23 g24);simp only [X46_4] at w27;(try simp -implicitDefEqProofs only [go_sem] at w27);try simp -implicitDefEqProofs only [go_sem,E46_1,X46_1,k46_1b,b19,g22,g23,g24,w27]
   rcases brx h with ⟨b29,h⟩|⟨b29,h⟩
   · obtain ⟨v33,w32,h⟩:=bcall (e46_5 a1 a2 a0 p1 s18 x20) h;simp only [X46_5] at w32;(try simp -implicitDefEqProofs only [go_sem] at w32);try simp -implicitDefEqProofs only [go_sem,E46_1,X46_1,k46_1b,b19,g22,g23,g24,w27,b29,w32]
     rcases brx h with ⟨b34,h⟩|⟨b34,h⟩
     · cases h;simp -implicitDefEqProofs only [go_sem,E46_1,X46_1,k46_1b,b19,g22,g23,g24,w27,b29,w32,b34]
     · cases h;simp -implicitDefEqProofs only [go_sem,E46_1,X46_1,k46_1b,b19,g22,g23,g24,w27,b29,w32,b34]
   · cases h;simp -implicitDefEqProofs only [go_sem,E46_1,X46_1,k46_1b,b19,g22,g23,g24,w27,b29]
theorem e46_1 (a1:Int)(a2:Int)(a0:List Rel)(p1:Int)(s:Int)(o:(Unit ⊕ Int))(h:loopP (m46_1b a1 a2 a0 p1) s=some o):evCL T 0 (.loop k46_1b) (E46_1 a1 a2 a0 p1 s).1 (E46_1 a1 a2 a0 p1 s).2=some (X46_1 a1 a2 a0 p1 o) :=
 loop_walk (E:=E46_1 a1 a2 a0 p1) (X:=X46_1 a1 a2 a0 p1) (by intro b;rcases b with b | b<;>(simp only [X46_1];nofun)) (b46_1 a1 a2 a0 p1) s o h
theorem e46 (a0:List Rel)(a1:Int)(a2:Int)(r:Int)(h:m46 a0 a1 a2=some r):evFL T 46 [.ts .imm 3 (a0.map nRel),nI a1,nI a2] []=some (nI r,[]):=by
 unfold m46 at h;rw [evFL_at fn46 (Nat.le_of_ble_eq_true rfl) rfl (.inr rfl) ⟨rfl,rfl⟩];(try simp -implicitDefEqProofs only [go_sem,i46,c46]);obtain ⟨o,q35,h⟩:=bnd_some h
 rcases o with ⟨⟩|v37
 · replace h:=selS_l h;have w36:=e46_1 a1 a2 a0 (↑a0.length:Int) 0 (.inl ()) q35;simp only [E46_1,X46_1] at w36;(try simp -implicitDefEqProofs only [go_sem] at w36);cases h;simp -implicitDefEqProofs only [go_sem,i46,c46,w36]
 · replace h:=selS_r h;have w36:=e46_1 a1 a2 a0 (↑a0.length:Int) 0 (.inr v37) q35;simp only [E46_1,X46_1] at w36;(try simp -implicitDefEqProofs only [go_sem] at w36);cases h;simp -implicitDefEqProofs only [go_sem,i46,c46,w36]
@[go_sem] theorem call56:CL 56 [[3],[1]]:=evCall0 fn56 rfl rfl rfl
noncomputable def X56_4 (a0:List Rel)(a1:List Int)(s23:Bool)(s24:Int)(r38:Int)(o:(Bool×Bool)):Ex×Fr×St :=
 (.normal,frOf 39 (upd (upd (upd (upd (upd (upd anyF 0 (.ts .imm 3 (a0.map nRel))) 1 (.ts .imm 1 (a1.map nInt))) 5 (.bool o.1)) 6 (nI s24)) 7 (nI r38)) 33 (.bool o.2)),[])
theorem e56_4 (a0:List Rel)(a1:List Int)(s23:Bool)(s24:Int)(r38:Int)(o:(Bool×Bool))(h:m56_4 s23 r38=some o):evCL T 0 k56_4 (frOf 39 (upd (upd (upd (upd (upd anyF 0 (.ts .imm 3 (a0.map nRel))) 1 (.ts .imm 1 (a1.map nInt))) 5 (.bool s23)) 6 (nI s24)) 7 (nI r38))) []=some (X56_4 a0 a1 s23 s24 r38 o):=by
 unfold m56_4 at h;try simp -implicitDefEqProofs only [go_sem,X56_4,k56_4]
 rcases brx h with ⟨b39,h⟩|⟨b39,h⟩
 · try simp -implicitDefEqProofs only [go_sem,X56_4,k56_4,b39]
   rcases brx h with ⟨b40,h⟩|⟨b40,h⟩
   · cases h;simp -implicitDefEqProofs only [go_sem,X56_4,k56_4,b39,b40]
   · cases h;simp -implicitDefEqProofs only [go_sem,X56_4,k56_4,b39,b40]
 · cases h;simp -implicitDefEqProofs only [go_sem,X56_4,k56_4,b39]
noncomputable def X56_5 (a0:List Rel)(a1:List Int)(v43:Bool)(s24:Int)(r38:Int)(o:Bool):Ex×Fr×St :=
 (.normal,frOf 39 (upd (upd (upd (upd anyF 0 (.ts .imm 3 (a0.map nRel))) 1 (.ts .imm 1 (a1.map nInt))) 5 (.bool o)) 6 (nI s24)),[])
theorem e56_5 (a0:List Rel)(a1:List Int)(v43:Bool)(s24:Int)(r38:Int)(o:Bool)(h:m56_5 v43 r38=some o):evCL T 0 k56_5 (frOf 39 (upd (upd (upd (upd (upd anyF 0 (.ts .imm 3 (a0.map nRel))) 1 (.ts .imm 1 (a1.map nInt))) 5 (.bool v43)) 6 (nI s24)) 7 (nI r38))) []=some (X56_5 a0 a1 v43 s24 r38 o):=by
 unfold m56_5 at h;try simp -implicitDefEqProofs only [go_sem,X56_5,k56_5]
 rcases brx h with ⟨b46,h⟩|⟨b46,h⟩
 · cases h;simp -implicitDefEqProofs only [go_sem,X56_5,k56_5,b46]
 · cases h;simp -implicitDefEqProofs only [go_sem,X56_5,k56_5,b46]
noncomputable def X56_1 (a0:List Rel)(a1:List Int)(o:(Unit ⊕ Unit)):Ex×Fr×St :=
 match o with
 | .inl o=>(.exit 0,frOf 39 (anyF),[])
 | .inr o=>(.ret,frOf 39 (upd anyF 4 (.bool false)),[])
noncomputable def E56_1 (a0:List Rel)(a1:List Int)(s:(Bool×Int)):Fr×St:=(frOf 39 (upd (upd (upd (upd anyF 0 (.ts .imm 3 (a0.map nRel))) 1 (.ts .imm 1 (a1.map nInt))) 5 (.bool s.1)) 6 (nI s.2)),[])
theorem b56_1 (a0:List Rel)(a1:List Int)(s:(Bool×Int))(o:Ctl (Bool×Int) (Unit ⊕ Unit))(h:m56_1b a0 a1 s=some o):evCL T 0 k56_1b (E56_1 a0 a1 s).1 (E56_1 a0 a1 s).2=some (ctlX (E56_1 a0 a1) (X56_1 a0 a1) o):=by
 unfold m56_1b at h;obtain ⟨s23,s24⟩:=s;replace h:=sel2_some h;try simp -implicitDefEqProofs only [go_sem,E56_1,X56_1,k56_1b]
 rcases brx h with ⟨b25,h⟩|⟨b25,h⟩
 · cases h;simp -implicitDefEqProofs only [go_sem,E56_1,X56_1,k56_1b,b25]
 · obtain ⟨x26,g28,g29,g30,h⟩:=bidx nInt h;obtain ⟨x31,g33,g34,g35,h⟩:=bidx nInt h;obtain ⟨r38,w37,h⟩:=bcall (e46 a0 x26 x31) h;obtain ⟨⟨v43,v44⟩,w42,h⟩:=bcall (e56_4 a0 a1 s23 s24 r38) h;replace h:=sel2_some h;(try simp -implicitDefEqProofs only [go_sem] at g29 g30 g34 g35 w37);simp only [X56_4] at w42;(try simp -implicitDefEqProofs only [go_sem] at w42);try simp -implicitDefEqProofs only [go_sem,E56_1,X56_1,k56_1b,b25,g28,g29,g30,g33,g34,g35,w37,w42]
   rcases brx h with ⟨b45,h⟩|⟨b45,h⟩
   · obtain ⟨v49,w48,h⟩:=bcall (e56_5 a0 a1 v43 s24 r38) h;simp only [X56_5] at w48;(try simp -implicitDefEqProofs only [go_sem] at w48);cases h;simp -implicitDefEqProofs only [go_sem,E56_1,X56_1,k56_1b,b25,g28,g29,g30,g33,g34,g35,w37,w42,b45,w48]
   · cases h;simp -implicitDefEqProofs only [go_sem,E56_1,X56_1,k56_1b,b25,g28,g29,g30,g33,g34,g35,w37,w42,b45]
theorem e56_1 (a0:List Rel)(a1:List Int)(s:(Bool×Int))(o:(Unit ⊕ Unit))(h:loopP (m56_1b a0 a1) s=some o):evCL T 0 (.loop k56_1b) (E56_1 a0 a1 s).1 (E56_1 a0 a1 s).2=some (X56_1 a0 a1 o) :=
 loop_walk (E:=E56_1 a0 a1) (X:=X56_1 a0 a1) (by intro b;rcases b with b | b<;>(simp only [X56_1];nofun)) (b56_1 a0 a1) s o h
theorem e56 (a0:List Rel)(a1:List Int)(r:Bool)(h:m56 a0 a1=some r):evFL T 56 [.ts .imm 3 (a0.map nRel),.ts .imm 1 (a1.map nInt)] []=some (.bool r,[]):=by
 unfold m56 at h;rw [evFL_at fn56 (Nat.le_of_ble_eq_true rfl) rfl (.inr rfl) ⟨rfl,rfl⟩];(try simp -implicitDefEqProofs only [go_sem,i56,c56]);obtain ⟨o,q50,h⟩:=bnd_some h
 rcases o with ⟨⟩|⟨⟩
 · replace h:=selS_l h;have w51:=e56_1 a0 a1 (false,1) (.inl ()) q50;simp only [E56_1,X56_1] at w51;(try simp -implicitDefEqProofs only [go_sem] at w51);cases h;simp -implicitDefEqProofs only [go_sem,i56,c56,w51]
 · replace h:=selS_r h;have w51:=e56_1 a0 a1 (false,1) (.inr ()) q50;simp only [E56_1,X56_1] at w51;(try simp -implicitDefEqProofs only [go_sem] at w51);cases h;simp -implicitDefEqProofs only [go_sem,i56,c56,w51]
@[go_sem] theorem call72:CL 72 [[1],[0]]:=evCall0 fn72 rfl rfl rfl
noncomputable def X72_1 (a0:List Int)(a1:Int)(p1:Int)(o:(Unit ⊕ Int)):Ex×Fr×St :=
 match o with
 | .inl o=>(.exit 0,frOf 19 (anyF),[])
 | .inr o=>(.ret,frOf 19 (upd anyF 4 (nI o)),[])
noncomputable def E72_1 (a0:List Int)(a1:Int)(p1:Int)(s:Int):Fr×St:=(frOf 19 (upd (upd (upd (upd anyF 0 (.ts .imm 1 (a0.map nInt))) 1 (nI a1)) 7 (nI p1)) 8 (nI s)),[])
theorem b72_1 (a0:List Int)(a1:Int)(p1:Int)(s:Int)(o:Ctl Int (Unit ⊕ Int))(h:m72_1b a0 a1 p1 s=some o):evCL T 0 k72_1b (E72_1 a0 a1 p1 s).1 (E72_1 a0 a1 p1 s).2=some (ctlX (E72_1 a0 a1 p1) (X72_1 a0 a1 p1) o):=by
 unfold m72_1b at h
 revert h
 generalize s=s9;intro h;try simp -implicitDefEqProofs only [go_sem,E72_1,X72_1,k72_1b]
 rcases brx h with ⟨b10,h⟩|⟨b10,h⟩
 · cases h;simp -implicitDefEqProofs only [go_sem,E72_1,X72_1,k72_1b,b10]
 · obtain ⟨x11,g13,g14,g15,h⟩:=bidx nInt h;(try simp -implicitDefEqProofs only [go_sem] at g14 g15);try simp -implicitDefEqProofs only [go_sem,E72_1,X72_1,k72_1b,b10,g13,g14,g15]
   rcases brx h with ⟨b16,h⟩|⟨b16,h⟩
   · cases h;simp -implicitDefEqProofs only [go_sem,E72_1,X72_1,k72_1b,b10,g13,g14,g15,b16]
   · cases h;simp -implicitDefEqProofs only [go_sem,E72_1,X72_1,k72_1b,b10,g13,g14,g15,b16]
theorem e72_1 (a0:List Int)(a1:Int)(p1:Int)(s:Int)(o:(Unit ⊕ Int))(h:loopP (m72_1b a0 a1 p1) s=some o):evCL T 0 (.loop k72_1b) (E72_1 a0 a1 p1 s).1 (E72_1 a0 a1 p1 s).2=some (X72_1 a0 a1 p1 o) :=
 loop_walk (E:=E72_1 a0 a1 p1) (X:=X72_1 a0 a1 p1) (by intro b;rcases b with b | b<;>(simp only [X72_1];nofun)) (b72_1 a0 a1 p1) s o h
theorem e72 (a0:List Int)(a1:Int)(r:Int)(h:m72 a0 a1=some r):evFL T 72 [.ts .imm 1 (a0.map nInt),nI a1] []=some (nI r,[]):=by
 unfold m72 at h;rw [evFL_at fn72 (Nat.le_of_ble_eq_true rfl) rfl (.inr rfl) ⟨rfl,rfl⟩];(try simp -implicitDefEqProofs only [go_sem,i72,c72]);obtain ⟨o,q17,h⟩:=bnd_some h
 rcases o with ⟨⟩|v19
 · replace h:=selS_l h;have w18:=e72_1 a0 a1 (↑a0.length:Int) 0 (.inl ()) q17;simp only [E72_1,X72_1] at w18;(try simp -implicitDefEqProofs only [go_sem] at w18);cases h;simp -implicitDefEqProofs only [go_sem,i72,c72,w18]
 · replace h:=selS_r h;have w18:=e72_1 a0 a1 (↑a0.length:Int) 0 (.inr v19) q17;simp only [E72_1,X72_1] at w18;(try simp -implicitDefEqProofs only [go_sem] at w18);cases h;simp -implicitDefEqProofs only [go_sem,i72,c72,w18]
@[go_sem] theorem call55:CL 55 [[1],[0]]:=evCall0 fn55 rfl rfl rfl
theorem e55 (a0:List Int)(a1:Int)(r:Bool)(h:m55 a0 a1=some r):evFL T 55 [.ts .imm 1 (a0.map nInt),nI a1] []=some (.bool r,[]):=by
 unfold m55 at h;rw [evFL_at fn55 (Nat.le_of_ble_eq_true rfl) rfl (.inr rfl) ⟨rfl,rfl⟩];obtain ⟨r3,w2,h⟩:=bcall (e72 a0 a1) h;(try simp -implicitDefEqProofs only [go_sem] at w2);cases h;simp -implicitDefEqProofs only [go_sem,i55,c55,w2]
@[go_sem] theorem call49:CL 49 [[1]]:=evCall0 fn49 rfl rfl rfl
theorem e49 (a0:List Int)(r:List Int)(h:m49 a0=some r):evFL T 49 [.ts .imm 1 (a0.map nInt)] []=some (.sl 0 0 r.length,[some ⟨.arr,1,r.map nInt⟩]):=by
 unfold m49 at h;rw [evFL_at fn49 (Nat.le_of_ble_eq_true rfl) rfl (.inr rfl) ⟨rfl,rfl⟩]
 cases a0 with
 | nil =>
     obtain ⟨g1,h⟩:=ck_some h;(try simp -implicitDefEqProofs only [go_sem] at g1);cases h;simp -implicitDefEqProofs only [go_sem,i49,c49,g1]
 | cons y ys =>
     obtain ⟨g1,h⟩:=ck_some h;(try simp -implicitDefEqProofs only [go_sem] at g1);cases h;simp -implicitDefEqProofs only [go_sem,i49,c49,g1]
@[go_sem] theorem call76 (args:List AV)(S:St):evCall T (evFL T) 76 args S=c3A true true (evFL T 76) (rawAll S [[0],[3],[1],[1]] args):=evCall3_g fn76 rfl (fun h=>absurd h.1 (by decide)) args S
noncomputable def X76_3 (a0:Int)(a1:List Rel)(s29:Int)(p12:Int)(p35:Bool)(a2:List Int)(s30:List (List Int))(o:(List (List Int))):Ex×Fr×St :=
 (.normal,frOf 46 (upd (upd (upd (upd (upd (upd anyF 0 (nI a0)) 1 (.ts .imm 3 (a1.map nRel))) 2 (.sl 2 0 a2.length)) 3 (.sl 3 0 o.length)) 27 (nI p12)) 28 (nI s29)),[none,none,some ⟨.arr,1,a2.map nInt⟩,some ⟨.arr,1,o.map (nLIn .own)⟩])
theorem e76_3 (rc:Int→(List Rel)→(List Int)→(List (List Int))→Option (List (List Int)))(hrc:∀(a0:Int) (a1:List Rel) (a2:List Int) (a3:(List (List Int))) (r:List (List Int)),rc a0 a1 a2 a3=some r→evFL T 76 [nI a0,.ts .imm 3 (a1.map nRel),.sl 0 0 a2.length,.sl 1 0 a3.length] [some ⟨.arr,1,a2.map nInt⟩,some ⟨.arr,1,a3.map (nLIn .own)⟩]=some (.sl 2 0 r.length,[none,none,some ⟨.arr,1,r.map (nLIn .own)⟩]))(a0:Int)(a1:List Rel)(s29:Int)(p12:Int)(p35:Bool)(a2:List Int)(s30:List (List Int))(o:(List (List Int)))(h:m76_3 rc a0 a1 s29 p35 a2 s30=some o):evCL T 2 k76_3 (frOf 46 (upd (upd (upd (upd (upd (upd (upd (upd anyF 0 (nI a0)) 1 (.ts .imm 3 (a1.map nRel))) 2 (.sl 2 0 a2.length)) 3 (.sl 3 0 s30.length)) 9 (nI s29)) 27 (nI p12)) 28 (nI s29)) 34 (.bool p35))) [none,none,some ⟨.arr,1,a2.map nInt⟩,some ⟨.arr,1,s30.map (nLIn .own)⟩]=some (X76_3 a0 a1 s29 p12 p35 a2 s30 o):=by
 unfold m76_3 at h;try simp -implicitDefEqProofs only [go_sem,X76_3,k76_3]
 rcases brx h with ⟨b36,h⟩|⟨b36,h⟩
 · cases h;simp -implicitDefEqProofs only [go_sem,X76_3,k76_3,b36]
 · obtain ⟨r39,w38,h⟩:=bcall (e49 a2) h;(try simp -implicitDefEqProofs only [go_sem] at w38);obtain ⟨g40,h⟩:=ck_some h;obtain ⟨r43,w42,h⟩:=bcall (hrc a0 a1 (r39++[s29]) s30) h;(try simp -implicitDefEqProofs only [go_sem] at g40 w42);cases h;simp -implicitDefEqProofs only [go_sem,X76_3,k76_3,b36,w38,g40,w42]
noncomputable def X76_1 (a0:Int)(a1:List Rel)(p12:Int)(a2:List Int)(o:(List (List Int))):Ex×Fr×St :=
 (.exit 0,frOf 46 (upd anyF 3 (.sl 2 0 o.length)),[none,none,some ⟨.arr,1,o.map (nLIn .own)⟩])
noncomputable def E76_1 (a0:Int)(a1:List Rel)(p12:Int)(a2:List Int)(s:(Int×List (List Int))):Fr×St:=(frOf 46 (upd (upd (upd (upd (upd (upd anyF 0 (nI a0)) 1 (.ts .imm 3 (a1.map nRel))) 2 (.sl 2 0 a2.length)) 3 (.sl 3 0 s.2.length)) 27 (nI p12)) 28 (nI s.1)),[none,none,some ⟨.arr,1,a2.map nInt⟩,some ⟨.arr,1,s.2.map (nLIn .own)⟩])
theorem b76_1 (rc:Int→(List Rel)→(List Int)→(List (List Int))→Option (List (List Int)))(hrc:∀(a0:Int) (a1:List Rel) (a2:List Int) (a3:(List (List Int))) (r:List (List Int)),rc a0 a1 a2 a3=some r→evFL T 76 [nI a0,.ts .imm 3 (a1.map nRel),.sl 0 0 a2.length,.sl 1 0 a3.length] [some ⟨.arr,1,a2.map nInt⟩,some ⟨.arr,1,a3.map (nLIn .own)⟩]=some (.sl 2 0 r.length,[none,none,some ⟨.arr,1,r.map (nLIn .own)⟩]))(a0:Int)(a1:List Rel)(p12:Int)(a2:List Int)(s:(Int×List (List Int)))(o:Ctl (Int×List (List Int)) (List (List Int)))(h:m76_1b rc a0 a1 p12 a2 s=some o):evCL T 2 k76_1b (E76_1 a0 a1 p12 a2 s).1 (E76_1 a0 a1 p12 a2 s).2=some (ctlX (E76_1 a0 a1 p12 a2) (X76_1 a0 a1 p12 a2) o):=by
 unfold m76_1b at h;obtain ⟨s29,s30⟩:=s;replace h:=sel2_some h;try simp -implicitDefEqProofs only [go_sem,E76_1,X76_1,k76_1b]
 rcases brx h with ⟨b31,h⟩|⟨b31,h⟩
 · cases h;simp -implicitDefEqProofs only [go_sem,E76_1,X76_1,k76_1b,b31]
 · obtain ⟨r34,w33,h⟩:=bcall (e55 a2 s29) h;obtain ⟨v46,w45,h⟩:=bcall (e76_3 rc hrc a0 a1 s29 p12 (!r34) a2 s30) h;(try simp -implicitDefEqProofs only [go_sem] at w33);simp only [X76_3] at w45;(try simp -implicitDefEqProofs only [go_sem] at w45);cases h;simp -implicitDefEqProofs only [go_sem,E76_1,X76_1,k76_1b,b31,w33,w45]
theorem e76_1 (rc:Int→(List Rel)→(List Int)→(List (List Int))→Option (List (List Int)))(hrc:∀(a0:Int) (a1:List Rel) (a2:List Int) (a3:(List (List Int))) (r:List (List Int)),rc a0 a1 a2 a3=some r→evFL T 76 [nI a0,.ts .imm 3 (a1.map nRel),.sl 0 0 a2.length,.sl 1 0 a3.length] [some ⟨.arr,1,a2.map nInt⟩,some ⟨.arr,1,a3.map (nLIn .own)⟩]=some (.sl 2 0 r.length,[none,none,some ⟨.arr,1,r.map (nLIn .own)⟩]))(a0:Int)(a1:List Rel)(p12:Int)(a2:List Int)(s:(Int×List (List Int)))(o:(List (List Int)))(h:loopP (m76_1b rc a0 a1 p12 a2) s=some o):evCL T 2 (.loop k76_1b) (E76_1 a0 a1 p12 a2 s).1 (E76_1 a0 a1 p12 a2 s).2=some (X76_1 a0 a1 p12 a2 o) :=
 loop_walk (E:=E76_1 a0 a1 p12 a2) (X:=X76_1 a0 a1 p12 a2) (by intro b;(simp only [X76_1];nofun)) (b76_1 rc hrc a0 a1 p12 a2) s o h
theorem e76r (rc:Int→(List Rel)→(List Int)→(List (List Int))→Option (List (List Int)))(hrc:∀(a0:Int) (a1:List Rel) (a2:List Int) (a3:(List (List Int))) (r:List (List Int)),rc a0 a1 a2 a3=some r→evFL T 76 [nI a0,.ts .imm 3 (a1.map nRel),.sl 0 0 a2.length,.sl 1 0 a3.length] [some ⟨.arr,1,a2.map nInt⟩,some ⟨.arr,1,a3.map (nLIn .own)⟩]=some (.sl 2 0 r.length,[none,none,some ⟨.arr,1,r.map (nLIn .own)⟩]))(a0:Int)(a1:List Rel)(a2:List Int)(a3:(List (List Int)))(r:List (List Int))(h:m76r rc a0 a1 a2 a3=some r):evFL T 76 [nI a0,.ts .imm 3 (a1.map nRel),.sl 0 0 a2.length,.sl 1 0 a3.length] [some ⟨.arr,1,a2.map nInt⟩,some ⟨.arr,1,a3.map (nLIn .own)⟩]=some (.sl 2 0 r.length,[none,none,some ⟨.arr,1,r.map (nLIn .own)⟩]):=by
 unfold m76r at h;rw [evFL_at fn76 (Nat.le_of_ble_eq_true rfl) rfl (.inl rfl) ⟨rfl,rfl⟩];obtain ⟨r3,w2,h⟩:=bcall (e56 a1 a2) h;(try simp -implicitDefEqProofs only [go_sem] at w2);try simp -implicitDefEqProofs only [go_sem,i76,c76,w2]
 rcases brx h with ⟨b4,h⟩|⟨b4,h⟩
 · cases h;simp -implicitDefEqProofs only [go_sem,i76,c76,w2,b4]
 · obtain ⟨x5,g7,g8,g9,h⟩:=bidx nInt h;(try simp -implicitDefEqProofs only [go_sem] at g8 g9);try simp -implicitDefEqProofs only [go_sem,i76,c76,w2,b4,g7,g8,g9]
   rcases brx h with ⟨b10,h⟩|⟨b10,h⟩
   · obtain ⟨v49,w48,h⟩:=bcall (e76_1 rc hrc a0 a1 (wadd .i64 a0 1) a2 (0,a3)) h;simp only [E76_1,X76_1] at w48;(try simp -implicitDefEqProofs only [go_sem] at w48);cases h;simp -implicitDefEqProofs only [go_sem,i76,c76,w2,b4,g7,g8,g9,b10,w48]
   · obtain ⟨g11,h⟩:=ck_some h;(try simp -implicitDefEqProofs only [go_sem] at g11);cases h;simp -implicitDefEqProofs only [go_sem,i76,c76,w2,b4,g7,g8,g9,b10,g11]
theorem e76k:∀(k:Nat) (a0:Int) (a1:List Rel) (a2:List Int) (a3:(List (List Int))) (r:List (List Int)) (h:m76k k a0 a1 a2 a3=some r),evFL T 76 [nI a0,.ts .imm 3 (a1.map nRel),.sl 0 0 a2.length,.sl 1 0 a3.length] [some ⟨.arr,1,a2.map nInt⟩,some ⟨.arr,1,a3.map (nLIn .own)⟩]=some (.sl 2 0 r.length,[none,none,some ⟨.arr,1,r.map (nLIn .own)⟩]):=by
 intro k
 induction k with
 | zero=>intro a0 a1 a2 a3 r h;cases h
 | succ k ih=>intro a0 a1 a2 a3 r h;exact e76r (m76k k) (fun a0 a1 a2 a3 r h=>ih a0 a1 a2 a3 r h) a0 a1 a2 a3 r h
theorem e76 (a0:Int)(a1:List Rel)(a2:List Int)(a3:(List (List Int)))(r:List (List Int))(h:m76 a0 a1 a2 a3=some r):evFL T 76 [nI a0,.ts .imm 3 (a1.map nRel),.sl 0 0 a2.length,.sl 1 0 a3.length] [some ⟨.arr,1,a2.map nInt⟩,some ⟨.arr,1,a3.map (nLIn .own)⟩]=some (.sl 2 0 r.length,[none,none,some ⟨.arr,1,r.map (nLIn .own)⟩]):=by
 obtain ⟨N,hN⟩:=limO_iff.1 h;exact e76k N a0 a1 a2 a3 r (hN N (Nat.le_refl N))
theorem call77 (args:List AV)(S:St):evCall T (evFL T) 77 args S=evSort T (evFL T) 83 args S:=evCallS fn77 rfl args S
theorem srt77_78 (id k:Nat)(caps:List AV)(S:St):evSort T (evFL T) 83 [.sl id 0 k,.fn 78 caps] S=srtC (evFL T) 78 false 1 id k S (idsDeep S (.fn 78 caps)) (isRow S id) (mapO (lendPtr S) caps):=evSort_at elem83 fn78 rfl rfl soft0 id k caps S
attribute [go_sem] call77 srt77_78
@[go_sem] theorem call98:CL 98 [[0]]:=evCall0 fn98 rfl rfl rfl
theorem e98 (a0:Int)(r:Bool)(h:m98 a0=some r):evFL T 98 [nI a0] []=some (.bool r,[]):=by
 unfold m98 at h;rw [evFL_at fn98 (Nat.le_of_ble_eq_true rfl) rfl (.inr rfl) ⟨rfl,rfl⟩];cases h;simp -implicitDefEqProofs only [go_sem,i98,c98]
theorem call80:CL 80 [[0],[0]]:=evCall0 fn80 rfl rfl rfl
theorem callz80:CZ 80 [[0]] [[0],[0]]:=evCallFz0 fn80 rfl rfl rfl
attribute [go_sem] call80 callz80
theorem e80 (a0:Int)(a1:Int)(r:Int)(h:m80 a0 a1=some r):evFL T 80 [nI a0,nI a1] []=some (nI r,[]):=by
 unfold m80 at h;rw [evFL_at fn80 (Nat.le_of_ble_eq_true rfl) rfl (.inr rfl) ⟨rfl,rfl⟩];obtain ⟨r3,w2,h⟩:=bcall (e98 a0) h;obtain ⟨r6,w5,h⟩:=bcall (e98 a1) h;(try simp -implicitDefEqProofs only [go_sem] at w2 w5);try simp -implicitDefEqProofs only [go_sem,i80,c80,w2,w5]
 rcases brx h with ⟨b7,h⟩|⟨b7,h⟩
 · try simp -implicitDefEqProofs only [go_sem,i80,c80,w2,w5,b7]
   rcases brx h with ⟨b9,h⟩|⟨b9,h⟩
   · try simp -implicitDefEqProofs only [go_sem,i80,c80,w2,w5,b7,b9]
     rcases brx h with ⟨b10,h⟩|⟨b10,h⟩
     · try simp -implicitDefEqProofs only [go_sem,i80,c80,w2,w5,b7,b9,b10]
       rcases brx h with ⟨b11,h⟩|⟨b11,h⟩
       · cases h;simp -implicitDefEqProofs only [go_sem,i80,c80,w2,w5,b7,b9,b10,b11]
       · cases h;simp -implicitDefEqProofs only [go_sem,i80,c80,w2,w5,b7,b9,b10,b11]
     · cases h;simp -implicitDefEqProofs only [go_sem,i80,c80,w2,w5,b7,b9,b10]
   · cases h;simp -implicitDefEqProofs only [go_sem,i80,c80,w2,w5,b7,b9]
 · try simp -implicitDefEqProofs only [go_sem,i80,c80,w2,w5,b7]
   rcases brx h with ⟨b8,h⟩|⟨b8,h⟩
   · cases h;simp -implicitDefEqProofs only [go_sem,i80,c80,w2,w5,b7,b8]
   · cases h;simp -implicitDefEqProofs only [go_sem,i80,c80,w2,w5,b7,b8]
theorem call81:CL 81 [[1],[1]]:=evCall0 fn81 rfl rfl rfl
theorem callz81:CZ 81 [[0]] [[1],[1]]:=evCallFz0 fn81 rfl rfl rfl
attribute [go_sem] call81 callz81
noncomputable def X81_1 (a0:List Int)(a1:List Int)(p1:Int)(o:(Unit ⊕ Int)):Ex×Fr×St :=
 match o with
 | .inl o=>(.exit 0,frOf 36 (upd (upd anyF 0 (.ts .imm 1 (a0.map nInt))) 1 (.ts .imm 1 (a1.map nInt))),[])
 | .inr o=>(.ret,frOf 36 (upd anyF 4 (nI o)),[])
noncomputable def E81_1 (a0:List Int)(a1:List Int)(p1:Int)(s:Int):Fr×St:=(frOf 36 (upd (upd (upd (upd (upd anyF 0 (.ts .imm 1 (a0.map nInt))) 1 (.ts .imm 1 (a1.map nInt))) 9 (.ts .imm 1 (a0.map nInt))) 10 (nI p1)) 11 (nI s)),[])
theorem b81_1 (a0:List Int)(a1:List Int)(p1:Int)(s:Int)(o:Ctl Int (Unit ⊕ Int))(h:m81_1b a0 a1 p1 s=some o):evCL T 0 k81_1b (E81_1 a0 a1 p1 s).1 (E81_1 a0 a1 p1 s).2=some (ctlX (E81_1 a0 a1 p1) (X81_1 a0 a1 p1) o):=by
 unfold m81_1b at h
 revert h
 generalize s=s18;intro h;try simp -implicitDefEqProofs only [go_sem,E81_1,X81_1,k81_1b]
 rcases brx h with ⟨b19,h⟩|⟨b19,h⟩
 · cases h;simp -implicitDefEqProofs only [go_sem,E81_1,X81_1,k81_1b,b19]
 · obtain ⟨x20,g22,g23,g24,h⟩:=bidx nInt h;(try simp -implicitDefEqProofs only [go_sem] at g23 g24);try simp -implicitDefEqProofs only [go_sem,E81_1,X81_1,k81_1b,b19,g22,g23,g24]
   rcases brx h with ⟨b25,h⟩|⟨b25,h⟩
   · obtain ⟨x26,g28,g29,g30,h⟩:=bidx nInt h;obtain ⟨r33,w32,h⟩:=bcall (e80 x20 x26) h;(try simp -implicitDefEqProofs only [go_sem] at g29 g30 w32);try simp -implicitDefEqProofs only [go_sem,E81_1,X81_1,k81_1b,b19,g22,g23,g24,b25,g28,g29,g30,w32]
     rcases brx h with ⟨b34,h⟩|⟨b34,h⟩
     · cases h;simp -implicitDefEqProofs only [go_sem,E81_1,X81_1,k81_1b,b19,g22,g23,g24,b25,g28,g29,g30,w32,b34]
     · cases h;simp -implicitDefEqProofs only [go_sem,E81_1,X81_1,k81_1b,b19,g22,g23,g24,b25,g28,g29,g30,w32,b34]
   · cases h;simp -implicitDefEqProofs only [go_sem,E81_1,X81_1,k81_1b,b19,g22,g23,g24,b25]
theorem e81_1 (a0:List Int)(a1:List Int)(p1:Int)(s:Int)(o:(Unit ⊕ Int))(h:loopP (m81_1b a0 a1 p1) s=some o):evCL T 0 (.loop k81_1b) (E81_1 a0 a1 p1 s).1 (E81_1 a0 a1 p1 s).2=some (X81_1 a0 a1 p1 o) :=
 loop_walk (E:=E81_1 a0 a1 p1) (X:=X81_1 a0 a1 p1) (by intro b;rcases b with b | b<;>(simp only [X81_1];nofun)) (b81_1 a0 a1 p1) s o h
theorem e81 (a0:List Int)(a1:List Int)(r:Int)(h:m81 a0 a1=some r):evFL T 81 [.ts .imm 1 (a0.map nInt),.ts .imm 1 (a1.map nInt)] []=some (nI r,[]):=by
 unfold m81 at h;rw [evFL_at fn81 (Nat.le_of_ble_eq_true rfl) rfl (.inr rfl) ⟨rfl,rfl⟩];(try simp -implicitDefEqProofs only [go_sem,i81,c81]);obtain ⟨o,q35,h⟩:=bnd_some h
 rcases o with ⟨⟩|v38
 · replace h:=selS_l h;have w36:=e81_1 a0 a1 (↑a0.length:Int) 0 (.inl ()) q35;simp only [E81_1,X81_1] at w36;(try simp -implicitDefEqProofs only [go_sem] at w36);try simp -implicitDefEqProofs only [go_sem,i81,c81,w36]
   rcases brx h with ⟨b37,h⟩|⟨b37,h⟩
   · cases h;simp -implicitDefEqProofs only [go_sem,i81,c81,w36,b37]
   · cases h;simp -implicitDefEqProofs only [go_sem,i81,c81,w36,b37]
 · replace h:=selS_r h;have w36:=e81_1 a0 a1 (↑a0.length:Int) 0 (.inr v38) q35;simp only [E81_1,X81_1] at w36;(try simp -implicitDefEqProofs only [go_sem] at w36);cases h;simp -implicitDefEqProofs only [go_sem,i81,c81,w36]
theorem call79:CL 79 [[1]]:=evCall0 fn79 rfl rfl rfl
theorem callz79:CZ 79 [[0]] [[1]]:=evCallFz0 fn79 rfl rfl rfl
attribute [go_sem] call79 callz79
noncomputable def X79_1 (a0:List Int)(p1:Int)(o:(Unit ⊕ Int)):Ex×Fr×St :=
 match o with
 | .inl o=>(.exit 0,frOf 18 (upd anyF 3 (nI 0)),[])
 | .inr o=>(.ret,frOf 18 (upd anyF 2 (nI o)),[])
noncomputable def E79_1 (a0:List Int)(p1:Int)(s:Int):Fr×St:=(frOf 18 (upd (upd (upd (upd anyF 3 (nI 0)) 6 (.ts .imm 1 (a0.map nInt))) 7 (nI p1)) 8 (nI s)),[])
theorem b79_1 (a0:List Int)(p1:Int)(s:Int)(o:Ctl Int (Unit ⊕ Int))(h:m79_1b a0 p1 s=some o):evCL T 0 k79_1b (E79_1 a0 p1 s).1 (E79_1 a0 p1 s).2=some (ctlX (E79_1 a0 p1) (X79_1 a0 p1) o):=by
 unfold m79_1b at h
 revert h
 generalize s=s9;intro h;try simp -implicitDefEqProofs only [go_sem,E79_1,X79_1,k79_1b]
 rcases brx h with ⟨b10,h⟩|⟨b10,h⟩
 · cases h;simp -implicitDefEqProofs only [go_sem,E79_1,X79_1,k79_1b,b10]
 · obtain ⟨x11,g13,g14,g15,h⟩:=bidx nInt h;(try simp -implicitDefEqProofs only [go_sem] at g14 g15);try simp -implicitDefEqProofs only [go_sem,E79_1,X79_1,k79_1b,b10,g13,g14,g15]
   rcases brx h with ⟨b16,h⟩|⟨b16,h⟩
   · cases h;simp -implicitDefEqProofs only [go_sem,E79_1,X79_1,k79_1b,b10,g13,g14,g15,b16]
   · cases h;simp -implicitDefEqProofs only [go_sem,E79_1,X79_1,k79_1b,b10,g13,g14,g15,b16]
theorem e79_1 (a0:List Int)(p1:Int)(s:Int)(o:(Unit ⊕ Int))(h:loopP (m79_1b a0 p1) s=some o):evCL T 0 (.loop k79_1b) (E79_1 a0 p1 s).1 (E79_1 a0 p1 s).2=some (X79_1 a0 p1 o) :=
 loop_walk (E:=E79_1 a0 p1) (X:=X79_1 a0 p1) (by intro b;rcases b with b | b<;>(simp only [X79_1];nofun)) (b79_1 a0 p1) s o h
theorem e79 (a0:List Int)(r:Int)(h:m79 a0=some r):evFL T 79 [.ts .imm 1 (a0.map nInt)] []=some (nI r,[]):=by
 unfold m79 at h;rw [evFL_at fn79 (Nat.le_of_ble_eq_true rfl) rfl (.inr rfl) ⟨rfl,rfl⟩];(try simp -implicitDefEqProofs only [go_sem,i79,c79]);obtain ⟨o,q17,h⟩:=bnd_some h
 rcases o with ⟨⟩|v19
 · replace h:=selS_l h;have w18:=e79_1 a0 (↑a0.length:Int) 0 (.inl ()) q17;simp only [E79_1,X79_1] at w18;(try simp -implicitDefEqProofs only [go_sem] at w18);cases h;simp -implicitDefEqProofs only [go_sem,i79,c79,w18]
 · replace h:=selS_r h;have w18:=e79_1 a0 (↑a0.length:Int) 0 (.inr v19) q17;simp only [E79_1,X79_1] at w18;(try simp -implicitDefEqProofs only [go_sem] at w18);cases h;simp -implicitDefEqProofs only [go_sem,i79,c79,w18]
theorem call78:CL 78 [[1],[1],[0],[0]]:=evCall0 fn78 rfl rfl rfl
theorem callz78:CZ 78 [[0]] [[1],[1],[0],[0]]:=evCallFz0 fn78 rfl rfl rfl
attribute [go_sem] call78 callz78
theorem e78 (a0:List Int)(a1:List Int)(a2:List Rel)(a3:Int)(r:Int)(h:m78 a0 a1 a2 a3=some r):evFL T 78 [.ts .imm 1 (a0.map nInt),.ts .imm 1 (a1.map nInt),.tp .imm 1 [[.ts .imm 3 (a2.map nRel)]] 0 0,.tp .imm 1 [[nI a3]] 0 0] []=some (nI r,[]):=by
 unfold m78 at h;rw [evFL_at fn78 (Nat.le_of_ble_eq_true rfl) rfl (.inr rfl) ⟨rfl,rfl⟩];obtain ⟨x1,g3,g4,g5,h⟩:=bidx nInt h;obtain ⟨r8,w7,h⟩:=bcall (e46 a2 a3 x1) h;obtain ⟨x9,g11,g12,g13,h⟩:=bidx nInt h;obtain ⟨r16,w15,h⟩:=bcall (e46 a2 a3 x9) h;obtain ⟨r19,w18,h⟩:=bcall (e80 r8 r16) h;obtain ⟨r22,w21,h⟩:=bcall (e80 (↑a0.length:Int) (↑a1.length:Int)) h;obtain ⟨r25,w24,h⟩:=bcall (e81 a0 a1) h;obtain ⟨r28,w27,h⟩:=bcall (e79 [r19,r22,r25]) h;(try simp -implicitDefEqProofs only [go_sem] at g4 g5 w7 g12 g13 w15 w18 w21 w24 w27);cases h;simp -implicitDefEqProofs only [go_sem,i78,c78,g3,g4,g5,w7,g11,g12,g13,w15,w18,w21,w24,w27]
@[go_sem] theorem call63:CL 63 [[0],[3]]:=evCall0 fn63 rfl rfl rfl
noncomputable def X63_1 (a0:Int)(a1:List Rel)(o:(List (List (List Int)))):Ex×Fr×St :=
 (.exit 0,frOf 30 (upd (upd anyF 4 (.ptr 0 0 0)) 5 (.ptr 2 0 0)),[some ⟨.box,1,[[.sl 1 0 0]]⟩,some ⟨.arr,1,[]⟩,some ⟨.box,1,[[.sl 3 0 o.length]]⟩,some ⟨.arr,1,o.map (nLLI .own)⟩])
noncomputable def E63_1 (a0:Int)(a1:List Rel)(s:(List (List (List Int))×Int)):Fr×St:=(frOf 30 (upd (upd (upd (upd (upd anyF 0 (nI a0)) 3 (.ptr 0 0 0)) 4 (.ptr 1 0 0)) 5 (.ptr 3 0 0)) 6 (.ptr 5 0 0)),[some ⟨.box,1,[[.ts .imm 3 (a1.map nRel)]]⟩,some ⟨.box,1,[[.sl 2 0 0]]⟩,some ⟨.arr,1,[]⟩,some ⟨.box,1,[[.sl 4 0 s.1.length]]⟩,some ⟨.arr,1,s.1.map (nLLI .own)⟩,some ⟨.box,1,[[nI s.2]]⟩])
theorem b63_1 (a0:Int)(a1:List Rel)(s:(List (List (List Int))×Int))(o:Ctl (List (List (List Int))×Int) (List (List (List Int))))(h:m63_1b a0 a1 s=some o):evCL T 0 k63_1b (E63_1 a0 a1 s).1 (E63_1 a0 a1 s).2=some (ctlX (E63_1 a0 a1) (X63_1 a0 a1) o):=by
 unfold m63_1b at h;obtain ⟨s10,s11⟩:=s;replace h:=sel2_some h;try simp -implicitDefEqProofs only [go_sem,E63_1,X63_1,k63_1b]
 rcases brx h with ⟨b12,h⟩|⟨b12,h⟩
 · cases h;simp -implicitDefEqProofs only [go_sem,E63_1,X63_1,k63_1b,b12]
 · obtain ⟨r15,w14,h⟩:=bcall (e76 a0 a1 [s11] []) h;obtain ⟨v16,q17,h⟩:=bnd_some h;try simp -implicitDefEqProofs only [go_sem] at w14
   obtain ⟨g18,g19,g20⟩:=srt_row (nLIn .own) (c':=cmpAt (evFL T) 78 [.tp .imm 1 [[.ts .imm 3 (a1.map nRel)]] 0 0,.tp .imm 1 [[nI s11]] 0 0] false) (fun y0 y1 r h=>by simp -implicitDefEqProofs only [go_sem,cmpAt,argRow,e78 y0 y1 a1 s11 r h]) q17
   (try simp -implicitDefEqProofs only [go_sem] at g18 g20);obtain ⟨g21,h⟩:=ck_some h;(try simp -implicitDefEqProofs only [go_sem] at g21);cases h;simp -implicitDefEqProofs only [go_sem,E63_1,X63_1,k63_1b,b12,w14,g18,g19,g20,g21]
theorem e63_1 (a0:Int)(a1:List Rel)(s:(List (List (List Int))×Int))(o:(List (List (List Int))))(h:loopP (m63_1b a0 a1) s=some o):evCL T 0 (.loop k63_1b) (E63_1 a0 a1 s).1 (E63_1 a0 a1 s).2=some (X63_1 a0 a1 o) :=
 loop_walk (E:=E63_1 a0 a1) (X:=X63_1 a0 a1) (by intro b;(simp only [X63_1];nofun)) (b63_1 a0 a1) s o h
theorem e63 (a0:Int)(a1:List Rel)(r:Spp)(h:m63 a0 a1=some r):evFL T 63 [nI a0,.ts .imm 3 (a1.map nRel)] []=some (.agg [.sl 0 0 r.ranked.length],[some ⟨.arr,1,r.ranked.map (nLLI .own)⟩]):=by
 unfold m63 at h;rw [evFL_at fn63 (Nat.le_of_ble_eq_true rfl) rfl (.inr rfl) ⟨rfl,rfl⟩];obtain ⟨v24,w23,h⟩:=bcall (e63_1 a0 a1 ([],1)) h;simp only [E63_1,X63_1] at w23;(try simp -implicitDefEqProofs only [go_sem] at w23);cases h;simp -implicitDefEqProofs only [go_sem,i63,c63,w23]
@[go_sem] theorem call100:CL 100 [[1],[0]]:=evCall0 fn100 rfl rfl rfl
noncomputable def X100_1 (a1_f:Nat)(a1_c:List AV)(a0:(List (List Int)))(p1:Int)(a1:((List Int)→Option Bool))(o:(Unit ⊕ Int)):Ex×Fr×St :=
 match o with
 | .inl o=>(.exit 0,frOf 19 (anyF),[])
 | .inr o=>(.ret,frOf 19 (upd anyF 4 (nI o)),[])
noncomputable def E100_1 (a1_f:Nat)(a1_c:List AV)(a0:(List (List Int)))(p1:Int)(a1:((List Int)→Option Bool))(s:Int):Fr×St:=(frOf 19 (upd (upd (upd (upd anyF 0 (.ts .imm 1 (a0.map (nLIn .imm)))) 1 (.fn a1_f a1_c)) 7 (nI p1)) 8 (nI s)),[])
theorem b100_1 (a0:(List (List Int)))(p1:Int)(a1:((List Int)→Option Bool))(a1_f:Nat)(a1_c:List AV)(a1_h:capOk a1_c∧∀y0 r,a1 y0=some r→clR a1_f a1_c [.ts .imm 1 (y0.map nInt)] (.bool r))(s:Int)(o:Ctl Int (Unit ⊕ Int))(h:m100_1b a0 p1 a1 s=some o):evCL T 0 k100_1b (E100_1 a1_f a1_c a0 p1 a1 s).1 (E100_1 a1_f a1_c a0 p1 a1 s).2=some (ctlX (E100_1 a1_f a1_c a0 p1 a1) (X100_1 a1_f a1_c a0 p1 a1) o):=by
 unfold m100_1b at h
 revert h
 generalize s=s12;intro h;try simp -implicitDefEqProofs only [go_sem,E100_1,X100_1,k100_1b,a1_h.1]
 rcases brx h with ⟨b13,h⟩|⟨b13,h⟩
 · cases h;simp -implicitDefEqProofs only [go_sem,E100_1,X100_1,k100_1b,a1_h.1,b13]
 · obtain ⟨x14,g16,g17,g18,h⟩:=bidx (nLIn .imm) h;obtain ⟨r19,w21,h⟩:=bcall (a1_h.2 x14) h;(try simp -implicitDefEqProofs only [go_sem] at g17 g18 w21);try simp -implicitDefEqProofs only [go_sem,E100_1,X100_1,k100_1b,a1_h.1,b13,g16,g17,g18,w21.1,w21.2]
   rcases brx h with ⟨b22,h⟩|⟨b22,h⟩
   · cases h;simp -implicitDefEqProofs only [go_sem,E100_1,X100_1,k100_1b,a1_h.1,b13,g16,g17,g18,w21.1,w21.2,b22]
   · cases h;simp -implicitDefEqProofs only [go_sem,E100_1,X100_1,k100_1b,a1_h.1,b13,g16,g17,g18,w21.1,w21.2,b22]
theorem e100_1 (a0:(List (List Int)))(p1:Int)(a1:((List Int)→Option Bool))(a1_f:Nat)(a1_c:List AV)(a1_h:capOk a1_c∧∀y0 r,a1 y0=some r→clR a1_f a1_c [.ts .imm 1 (y0.map nInt)] (.bool r))(s:Int)(o:(Unit ⊕ Int))(h:loopP (m100_1b a0 p1 a1) s=some o):evCL T 0 (.loop k100_1b) (E100_1 a1_f a1_c a0 p1 a1 s).1 (E100_1 a1_f a1_c a0 p1 a1 s).2=some (X100_1 a1_f a1_c a0 p1 a1 o) :=
 loop_walk (E:=E100_1 a1_f a1_c a0 p1 a1) (X:=X100_1 a1_f a1_c a0 p1 a1) (by intro b;rcases b with b | b<;>(simp only [X100_1];nofun)) (b100_1 a0 p1 a1 a1_f a1_c a1_h) s o h
theorem e100 (a0:(List (List Int)))(a1:((List Int)→Option Bool))(a1_f:Nat)(a1_c:List AV)(a1_h:capOk a1_c∧∀y0 r,a1 y0=some r→clR a1_f a1_c [.ts .imm 1 (y0.map nInt)] (.bool r))(r:Int)(h:m100 a0 a1=some r):evFL T 100 [.ts .imm 1 (a0.map (nLIn .imm)),.fn a1_f a1_c] []=some (nI r,[]):=by
 unfold m100 at h;rw [evFL_at fn100 (Nat.le_of_ble_eq_true rfl) rfl (.inr rfl) ⟨rfl,rfl⟩];(try simp -implicitDefEqProofs only [go_sem,i100,c100,a1_h.1]);obtain ⟨o,q23,h⟩:=bnd_some h
 rcases o with ⟨⟩|v25
 · replace h:=selS_l h;have w24:=e100_1 a0 (↑a0.length:Int) a1 a1_f a1_c a1_h 0 (.inl ()) q23;simp only [E100_1,X100_1] at w24;(try simp -implicitDefEqProofs only [go_sem] at w24);cases h;simp -implicitDefEqProofs only [go_sem,i100,c100,a1_h.1,w24]
 · replace h:=selS_r h;have w24:=e100_1 a0 (↑a0.length:Int) a1 a1_f a1_c a1_h 0 (.inr v25) q23;simp only [E100_1,X100_1] at w24;(try simp -implicitDefEqProofs only [go_sem] at w24);cases h;simp -implicitDefEqProofs only [go_sem,i100,c100,a1_h.1,w24]
theorem call83:CL 83 [[1],[0]]:=evCall0 fn83 rfl rfl rfl
theorem callz83:CZ 83 [[0]] [[1],[0]]:=evCallFz0 fn83 rfl rfl rfl
attribute [go_sem] call83 callz83
theorem e83 (a0:(List (List Int)))(a1:((List Int)→Option Bool))(a1_f:Nat)(a1_c:List AV)(a1_h:capOk a1_c∧∀y0 r,a1 y0=some r→clR a1_f a1_c [.ts .imm 1 (y0.map nInt)] (.bool r))(r:Bool)(h:m83 a0 a1=some r):evFL T 83 [.ts .imm 1 (a0.map (nLIn .imm)),.fn a1_f a1_c] []=some (.bool r,[]):=by
 unfold m83 at h;rw [evFL_at fn83 (Nat.le_of_ble_eq_true rfl) rfl (.inr rfl) ⟨rfl,rfl⟩];obtain ⟨r3,w2,h⟩:=bcall (e100 a0 a1 a1_f a1_c a1_h) h;(try simp -implicitDefEqProofs only [go_sem] at w2);cases h;simp -implicitDefEqProofs only [go_sem,i83,c83,a1_h.1,w2]
@[go_sem] theorem call85:CL 85 [[1],[1]]:=evCall0 fn85 rfl rfl rfl
noncomputable def X85_1 (a0:List Int)(a1:List Int)(p2:Int)(o:(Unit ⊕ Unit)):Ex×Fr×St :=
 match o with
 | .inl o=>(.exit 0,frOf 26 (anyF),[])
 | .inr o=>(.ret,frOf 26 (upd anyF 4 (.bool false)),[])
noncomputable def E85_1 (a0:List Int)(a1:List Int)(p2:Int)(s:Int):Fr×St:=(frOf 26 (upd (upd (upd (upd anyF 0 (.ts .imm 1 (a0.map nInt))) 1 (.ts .imm 1 (a1.map nInt))) 12 (nI p2)) 13 (nI s)),[])
theorem b85_1 (a0:List Int)(a1:List Int)(p2:Int)(s:Int)(o:Ctl Int (Unit ⊕ Unit))(h:m85_1b a0 a1 p2 s=some o):evCL T 0 k85_1b (E85_1 a0 a1 p2 s).1 (E85_1 a0 a1 p2 s).2=some (ctlX (E85_1 a0 a1 p2) (X85_1 a0 a1 p2) o):=by
 unfold m85_1b at h
 revert h
 generalize s=s15;intro h;try simp -implicitDefEqProofs only [go_sem,E85_1,X85_1,k85_1b]
 rcases brx h with ⟨b16,h⟩|⟨b16,h⟩
 · cases h;simp -implicitDefEqProofs only [go_sem,E85_1,X85_1,k85_1b,b16]
 · obtain ⟨x17,g19,g20,g21,h⟩:=bidx nInt h;obtain ⟨x22,g24,g25,g26,h⟩:=bidx nInt h;(try simp -implicitDefEqProofs only [go_sem] at g20 g21 g25 g26);try simp -implicitDefEqProofs only [go_sem,E85_1,X85_1,k85_1b,b16,g19,g20,g21,g24,g25,g26]
   rcases brx h with ⟨b27,h⟩|⟨b27,h⟩
   · cases h;simp -implicitDefEqProofs only [go_sem,E85_1,X85_1,k85_1b,b16,g19,g20,g21,g24,g25,g26,b27]
   · cases h;simp -implicitDefEqProofs only [go_sem,E85_1,X85_1,k85_1b,b16,g19,g20,g21,g24,g25,g26,b27]
theorem e85_1 (a0:List Int)(a1:List Int)(p2:Int)(s:Int)(o:(Unit ⊕ Unit))(h:loopP (m85_1b a0 a1 p2) s=some o):evCL T 0 (.loop k85_1b) (E85_1 a0 a1 p2 s).1 (E85_1 a0 a1 p2 s).2=some (X85_1 a0 a1 p2 o) :=
 loop_walk (E:=E85_1 a0 a1 p2) (X:=X85_1 a0 a1 p2) (by intro b;rcases b with b | b<;>(simp only [X85_1];nofun)) (b85_1 a0 a1 p2) s o h
theorem e85 (a0:List Int)(a1:List Int)(r:Bool)(h:m85 a0 a1=some r):evFL T 85 [.ts .imm 1 (a0.map nInt),.ts .imm 1 (a1.map nInt)] []=some (.bool r,[]):=by
 unfold m85 at h;rw [evFL_at fn85 (Nat.le_of_ble_eq_true rfl) rfl (.inr rfl) ⟨rfl,rfl⟩];try simp -implicitDefEqProofs only [go_sem,i85,c85]
 rcases brx h with ⟨b1,h⟩|⟨b1,h⟩
 · cases h;simp -implicitDefEqProofs only [go_sem,i85,c85,b1]
 · (try simp -implicitDefEqProofs only [go_sem,i85,c85,b1]);obtain ⟨o,q28,h⟩:=bnd_some h
   rcases o with ⟨⟩|⟨⟩
   · replace h:=selS_l h;have w29:=e85_1 a0 a1 (↑a0.length:Int) 0 (.inl ()) q28;simp only [E85_1,X85_1] at w29;(try simp -implicitDefEqProofs only [go_sem] at w29);cases h;simp -implicitDefEqProofs only [go_sem,i85,c85,b1,w29]
   · replace h:=selS_r h;have w29:=e85_1 a0 a1 (↑a0.length:Int) 0 (.inr ()) q28;simp only [E85_1,X85_1] at w29;(try simp -implicitDefEqProofs only [go_sem] at w29);cases h;simp -implicitDefEqProofs only [go_sem,i85,c85,b1,w29]
theorem call99:CL 99 [[1],[0]]:=evCall0 fn99 rfl rfl rfl
theorem callz99:CZ 99 [[0]] [[1],[0]]:=evCallFz0 fn99 rfl rfl rfl
attribute [go_sem] call99 callz99
theorem e99 (a0:List Int)(a1:List Int)(r:Bool)(h:m99 a0 a1=some r):evFL T 99 [.ts .imm 1 (a0.map nInt),.tp .imm 1 [[.ts .imm 1 (a1.map nInt)]] 0 0] []=some (.bool r,[]):=by
 unfold m99 at h;rw [evFL_at fn99 (Nat.le_of_ble_eq_true rfl) rfl (.inr rfl) ⟨rfl,rfl⟩];obtain ⟨g1,h⟩:=ck_some h;obtain ⟨r4,w3,h⟩:=bcall (e85 a0 (a1.drop 1)) h;(try simp -implicitDefEqProofs only [go_sem] at g1 w3);cases h;simp -implicitDefEqProofs only [go_sem,i99,c99,g1,w3]
@[go_sem] theorem call82:CL 82 [[1],[0],[1]]:=evCall0 fn82 rfl rfl rfl
noncomputable def X82_1 (a1:Int)(p1:Int)(a0:Spp)(a2:List Int)(o:Bool):Ex×Fr×St :=
 (.normal,frOf 69 (upd (upd (upd (upd anyF 3 (.ptr 0 0 0)) 5 (.ptr 1 0 0)) 7 (nI p1)) 28 (.bool o)),[some ⟨.box,1,[[.ts .imm 1 (a0.ranked.map (nLLI .imm))]]⟩,some ⟨.box,1,[[.ts .imm 1 (a2.map nInt)]]⟩])
theorem e82_1 (a1:Int)(p1:Int)(a0:Spp)(a2:List Int)(o:Bool)(h:m82_1 a1 p1 a2=some o):evCL T 0 k82_1 (frOf 69 (upd (upd (upd (upd anyF 1 (nI a1)) 3 (.ptr 0 0 0)) 5 (.ptr 1 0 0)) 7 (nI p1))) [some ⟨.box,1,[[.ts .imm 1 (a0.ranked.map (nLLI .imm))]]⟩,some ⟨.box,1,[[.ts .imm 1 (a2.map nInt)]]⟩]=some (X82_1 a1 p1 a0 a2 o):=by
 unfold m82_1 at h;try simp -implicitDefEqProofs only [go_sem,X82_1,k82_1]
 rcases brx h with ⟨b2,h⟩|⟨b2,h⟩
 · obtain ⟨x3,g5,g6,g7,h⟩:=bidx nInt h;(try simp -implicitDefEqProofs only [go_sem] at g6 g7);try simp -implicitDefEqProofs only [go_sem,X82_1,k82_1,b2,g5,g6,g7]
   rcases brx h with ⟨b8,h⟩|⟨b8,h⟩
   · cases h;simp -implicitDefEqProofs only [go_sem,X82_1,k82_1,b2,g5,g6,g7,b8]
   · obtain ⟨x9,g11,g12,g13,h⟩:=bidx nInt h;(try simp -implicitDefEqProofs only [go_sem] at g12 g13);cases h;simp -implicitDefEqProofs only [go_sem,X82_1,k82_1,b2,g5,g6,g7,b8,g11,g12,g13]
 · cases h;simp -implicitDefEqProofs only [go_sem,X82_1,k82_1,b2]
noncomputable def X82_4 (p18:Int)(s43:Int)(x45:Int)(a2:List Int)(p19:Int)(a0:Spp)(o:Bool):Ex×Fr×St :=
 (.normal,frOf 69 (upd (upd (upd (upd (upd (upd (upd anyF 3 (.ptr 0 0 0)) 5 (.ptr 1 0 0)) 7 (nI p18)) 29 (.ts .imm 1 (a2.map nInt))) 30 (nI p19)) 31 (nI s43)) 53 (.bool o)),[some ⟨.box,1,[[.ts .imm 1 (a0.ranked.map (nLLI .imm))]]⟩,some ⟨.box,1,[[.ts .imm 1 (a2.map nInt)]]⟩])
theorem e82_4 (p18:Int)(s43:Int)(x45:Int)(a2:List Int)(p19:Int)(a0:Spp)(o:Bool)(h:m82_4 p18 s43 x45 a2 a0=some o):evCL T 0 k82_4 (frOf 69 (upd (upd (upd (upd (upd (upd (upd (upd anyF 3 (.ptr 0 0 0)) 5 (.ptr 1 0 0)) 7 (nI p18)) 8 (nI s43)) 9 (nI x45)) 29 (.ts .imm 1 (a2.map nInt))) 30 (nI p19)) 31 (nI s43))) [some ⟨.box,1,[[.ts .imm 1 (a0.ranked.map (nLLI .imm))]]⟩,some ⟨.box,1,[[.ts .imm 1 (a2.map nInt)]]⟩]=some (X82_4 p18 s43 x45 a2 p19 a0 o):=by
 unfold m82_4 at h;try simp -implicitDefEqProofs only [go_sem,X82_4,k82_4]
 rcases brx h with ⟨b50,h⟩|⟨b50,h⟩
 · obtain ⟨g59,h⟩:=ck_some h;obtain ⟨r62,w61,h⟩:=bcall (e55 (a2.take s43.toNat) x45) h;(try simp -implicitDefEqProofs only [go_sem] at g59 w61);cases h;simp -implicitDefEqProofs only [go_sem,X82_4,k82_4,b50,g59,w61]
 · obtain ⟨r53,w52,h⟩:=bcall (e41 x45 1 (↑a0.ranked.length:Int)) h;(try simp -implicitDefEqProofs only [go_sem] at w52);try simp -implicitDefEqProofs only [go_sem,X82_4,k82_4,b50,w52]
   rcases brx h with ⟨b54,h⟩|⟨b54,h⟩
   · cases h;simp -implicitDefEqProofs only [go_sem,X82_4,k82_4,b50,w52,b54]
   · obtain ⟨g55,h⟩:=ck_some h;obtain ⟨r58,w57,h⟩:=bcall (e55 (a2.take s43.toNat) x45) h;(try simp -implicitDefEqProofs only [go_sem] at g55 w57);cases h;simp -implicitDefEqProofs only [go_sem,X82_4,k82_4,b50,w52,b54,g55,w57]
noncomputable def X82_2 (p18:Int)(a2:List Int)(p19:Int)(a0:Spp)(o:(Unit ⊕ Unit)):Ex×Fr×St :=
 match o with
 | .inl o=>(.exit 0,frOf 69 (upd (upd (upd anyF 3 (.ptr 0 0 0)) 5 (.ptr 1 0 0)) 7 (nI p18)),[some ⟨.box,1,[[.ts .imm 1 (a0.ranked.map (nLLI .imm))]]⟩,some ⟨.box,1,[[.ts .imm 1 (a2.map nInt)]]⟩])
 | .inr o=>(.ret,frOf 69 (upd anyF 6 (.bool false)),[])
noncomputable def E82_2 (p18:Int)(a2:List Int)(p19:Int)(a0:Spp)(s:Int):Fr×St:=(frOf 69 (upd (upd (upd (upd (upd (upd anyF 3 (.ptr 0 0 0)) 5 (.ptr 1 0 0)) 7 (nI p18)) 29 (.ts .imm 1 (a2.map nInt))) 30 (nI p19)) 31 (nI s)),[some ⟨.box,1,[[.ts .imm 1 (a0.ranked.map (nLLI .imm))]]⟩,some ⟨.box,1,[[.ts .imm 1 (a2.map nInt)]]⟩])
theorem b82_2 (p18:Int)(a2:List Int)(p19:Int)(a0:Spp)(s:Int)(o:Ctl Int (Unit ⊕ Unit))(h:m82_2b p18 a2 p19 a0 s=some o):evCL T 0 k82_2b (E82_2 p18 a2 p19 a0 s).1 (E82_2 p18 a2 p19 a0 s).2=some (ctlX (E82_2 p18 a2 p19 a0) (X82_2 p18 a2 p19 a0) o):=by
 unfold m82_2b at h
 revert h
 generalize s=s43;intro h;try simp -implicitDefEqProofs only [go_sem,E82_2,X82_2,k82_2b]
 rcases brx h with ⟨b44,h⟩|⟨b44,h⟩
 · cases h;simp -implicitDefEqProofs only [go_sem,E82_2,X82_2,k82_2b,b44]
 · obtain ⟨x45,g47,g48,g49,h⟩:=bidx nInt h;obtain ⟨v65,w64,h⟩:=bcall (e82_4 p18 s43 x45 a2 p19 a0) h;(try simp -implicitDefEqProofs only [go_sem] at g48 g49);simp only [X82_4] at w64;(try simp -implicitDefEqProofs only [go_sem] at w64);try simp -implicitDefEqProofs only [go_sem,E82_2,X82_2,k82_2b,b44,g47,g48,g49,w64]
   rcases brx h with ⟨b66,h⟩|⟨b66,h⟩
   · cases h;simp -implicitDefEqProofs only [go_sem,E82_2,X82_2,k82_2b,b44,g47,g48,g49,w64,b66]
   · cases h;simp -implicitDefEqProofs only [go_sem,E82_2,X82_2,k82_2b,b44,g47,g48,g49,w64,b66]
theorem e82_2 (p18:Int)(a2:List Int)(p19:Int)(a0:Spp)(s:Int)(o:(Unit ⊕ Unit))(h:loopP (m82_2b p18 a2 p19 a0) s=some o):evCL T 0 (.loop k82_2b) (E82_2 p18 a2 p19 a0 s).1 (E82_2 p18 a2 p19 a0 s).2=some (X82_2 p18 a2 p19 a0 o) :=
 loop_walk (E:=E82_2 p18 a2 p19 a0) (X:=X82_2 p18 a2 p19 a0) (by intro b;rcases b with b | b<;>(simp only [X82_2];nofun)) (b82_2 p18 a2 p19 a0) s o h
noncomputable def X82_5 (p69:Int)(a0:Spp)(a2:List Int)(o:Bool):Ex×Fr×St :=
 (.normal,frOf 69 (upd anyF 6 (.bool o)),[])
theorem e82_5 (p69:Int)(a0:Spp)(a2:List Int)(o:Bool)(h:m82_5 p69 a0 a2=some o):evCL T 0 k82_5 (frOf 69 (upd (upd (upd anyF 3 (.ptr 0 0 0)) 5 (.ptr 1 0 0)) 7 (nI p69))) [some ⟨.box,1,[[.ts .imm 1 (a0.ranked.map (nLLI .imm))]]⟩,some ⟨.box,1,[[.ts .imm 1 (a2.map nInt)]]⟩]=some (X82_5 p69 a0 a2 o):=by
 unfold m82_5 at h;try simp -implicitDefEqProofs only [go_sem,X82_5,k82_5]
 rcases brx h with ⟨b70,h⟩|⟨b70,h⟩
 · obtain ⟨x71,g73,g74,g75,h⟩:=bidx nInt h;obtain ⟨x76,g78,g79,g80,h⟩:=bidx (nLLI .imm) h
   obtain ⟨r83,w82,h⟩:=bcall (e83 x76 (fun y0=>m99 y0 a2) 99 [.tp .imm 1 [[.ts .imm 1 (a2.map nInt)]] 0 0] ⟨⟨fun S=>by simp -implicitDefEqProofs only [go_sem],fun _ _ _ _ _ _=>by simp -implicitDefEqProofs only [go_sem]⟩,fun y0 r h=>⟨fun S=>by simp -implicitDefEqProofs only [go_sem,e99 y0 a2 r h],fun S=>by simp -implicitDefEqProofs only [go_sem,e99 y0 a2 r h]⟩⟩) h
   (try simp -implicitDefEqProofs only [go_sem] at g74 g75 g79 g80 w82);cases h;simp -implicitDefEqProofs only [go_sem,X82_5,k82_5,b70,g73,g74,g75,g78,g79,g80,w82]
 · cases h;simp -implicitDefEqProofs only [go_sem,X82_5,k82_5,b70]
theorem e82 (a0:Spp)(a1:Int)(a2:List Int)(r:Bool)(h:m82 a0 a1 a2=some r):evFL T 82 [.agg [.ts .imm 1 (a0.ranked.map (nLLI .imm))],nI a1,.ts .imm 1 (a2.map nInt)] []=some (.bool r,[]):=by
 unfold m82 at h;rw [evFL_at fn82 (Nat.le_of_ble_eq_true rfl) rfl (.inr rfl) ⟨rfl,rfl⟩];obtain ⟨v16,w15,h⟩:=bcall (e82_1 a1 (wsub .i64 (↑a2.length:Int) 1) a0 a2) h;simp only [X82_1] at w15;(try simp -implicitDefEqProofs only [go_sem] at w15);try simp -implicitDefEqProofs only [go_sem,i82,c82,w15]
 rcases brx h with ⟨b17,h⟩|⟨b17,h⟩
 · (try simp -implicitDefEqProofs only [go_sem,i82,c82,w15,b17]);obtain ⟨o,q67,h⟩:=bnd_some h
   rcases o with ⟨⟩|⟨⟩
   · replace h:=selS_l h;have w68:=e82_2 (wsub .i64 (↑a2.length:Int) 1) a2 (↑a2.length:Int) a0 0 (.inl ()) q67;simp only [E82_2,X82_2] at w68;obtain ⟨v86,w85,h⟩:=bcall (e82_5 (wsub .i64 (↑a2.length:Int) 1) a0 a2) h;(try simp -implicitDefEqProofs only [go_sem] at w68);simp only [X82_5] at w85;(try simp -implicitDefEqProofs only [go_sem] at w85);cases h;simp -implicitDefEqProofs only [go_sem,i82,c82,w15,b17,w68,w85]
   · replace h:=selS_r h;have w68:=e82_2 (wsub .i64 (↑a2.length:Int) 1) a2 (↑a2.length:Int) a0 0 (.inr ()) q67;simp only [E82_2,X82_2] at w68;(try simp -implicitDefEqProofs only [go_sem] at w68);cases h;simp -implicitDefEqProofs only [go_sem,i82,c82,w15,b17,w68]
 · cases h;simp -implicitDefEqProofs only [go_sem,i82,c82,w15,b17]
theorem call84:CL 84 [[1],[0]]:=evCall0 fn84 rfl rfl rfl
theorem callz84:CZ 84 [[0]] [[1],[0]]:=evCallFz0 fn84 rfl rfl rfl
attribute [go_sem] call84 callz84
theorem e84 (a0:List Int)(a1:List Int)(r:Bool)(h:m84 a0 a1=some r):evFL T 84 [.ts .imm 1 (a0.map nInt),.tp .imm 1 [[.ts .imm 1 (a1.map nInt)]] 0 0] []=some (.bool r,[]):=by
 unfold m84 at h;rw [evFL_at fn84 (Nat.le_of_ble_eq_true rfl) rfl (.inr rfl) ⟨rfl,rfl⟩];obtain ⟨r3,w2,h⟩:=bcall (e85 a0 a1) h;(try simp -implicitDefEqProofs only [go_sem] at w2);cases h;simp -implicitDefEqProofs only [go_sem,i84,c84,w2]
@[go_sem] theorem call64:CL 64 [[1]]:=evCall0 fn64 rfl rfl rfl
noncomputable def X64_7 (s55:Int)(x57:(List (List Int)))(s83:Int)(a0:Spp)(p5:Int)(p63:Int)(x85:List Int)(o:Bool):Ex×Fr×St :=
 (.normal,frOf 50 (upd (upd (upd (upd (upd (upd (upd (upd (upd (upd anyF 1 (.ptr 0 0 0)) 3 (nI s55)) 4 (.ts .imm 1 (x57.map (nLIn .imm)))) 13 (.ts .imm 1 (a0.ranked.map (nLLI .imm)))) 14 (nI p5)) 15 (nI s55)) 23 (.ts .imm 1 (x57.map (nLIn .imm)))) 24 (nI p63)) 25 (nI s83)) 47 (.bool o)),[some ⟨.box,1,[[.ts .imm 1 (a0.ranked.map (nLLI .imm))]]⟩])
theorem e64_7 (s55:Int)(x57:(List (List Int)))(s83:Int)(a0:Spp)(p5:Int)(p63:Int)(x85:List Int)(o:Bool)(h:m64_7 s55 x57 s83 a0 x85=some o):evCL T 0 k64_7 (frOf 50 (upd (upd (upd (upd (upd (upd (upd (upd (upd (upd (upd anyF 1 (.ptr 0 0 0)) 3 (nI s55)) 4 (.ts .imm 1 (x57.map (nLIn .imm)))) 5 (nI s83)) 6 (.ptr 1 0 0)) 13 (.ts .imm 1 (a0.ranked.map (nLLI .imm)))) 14 (nI p5)) 15 (nI s55)) 23 (.ts .imm 1 (x57.map (nLIn .imm)))) 24 (nI p63)) 25 (nI s83))) [some ⟨.box,1,[[.ts .imm 1 (a0.ranked.map (nLLI .imm))]]⟩,some ⟨.box,1,[[.ts .imm 1 (x85.map nInt)]]⟩]=some (X64_7 s55 x57 s83 a0 p5 p63 x85 o):=by
 unfold m64_7 at h;try simp -implicitDefEqProofs only [go_sem,X64_7,k64_7]
 rcases brx h with ⟨b90,h⟩|⟨b90,h⟩
 · obtain ⟨r93,w92,h⟩:=bcall (e82 a0 (wadd .i64 s55 1) x85) h;(try simp -implicitDefEqProofs only [go_sem] at w92);try simp -implicitDefEqProofs only [go_sem,X64_7,k64_7,b90,w92]
   rcases brx h with ⟨b94,h⟩|⟨b94,h⟩
   · cases h;simp -implicitDefEqProofs only [go_sem,X64_7,k64_7,b90,w92,b94]
   · obtain ⟨g95,h⟩:=ck_some h
     obtain ⟨r98,w97,h⟩:=bcall (e83 (x57.take s83.toNat) (fun y0=>m84 y0 x85) 84 [.tp .imm 1 [[.ts .imm 1 (x85.map nInt)]] 0 0] ⟨⟨fun S=>by simp -implicitDefEqProofs only [go_sem],fun _ _ _ _ _ _=>by simp -implicitDefEqProofs only [go_sem]⟩,fun y0 r h=>⟨fun S=>by simp -implicitDefEqProofs only [go_sem,e84 y0 x85 r h],fun S=>by simp -implicitDefEqProofs only [go_sem,e84 y0 x85 r h]⟩⟩) h
     (try simp -implicitDefEqProofs only [go_sem] at g95 w97);cases h;simp -implicitDefEqProofs only [go_sem,X64_7,k64_7,b90,w92,b94,g95,w97]
 · cases h;simp -implicitDefEqProofs only [go_sem,X64_7,k64_7,b90]
noncomputable def X64_5 (s55:Int)(x57:(List (List Int)))(a0:Spp)(p5:Int)(p63:Int)(o:(Unit ⊕ Unit)):Ex×Fr×St :=
 match o with
 | .inl o=>(.exit 2,frOf 50 (upd (upd (upd (upd anyF 1 (.ptr 0 0 0)) 13 (.ts .imm 1 (a0.ranked.map (nLLI .imm)))) 14 (nI p5)) 15 (nI s55)),[some ⟨.box,1,[[.ts .imm 1 (a0.ranked.map (nLLI .imm))]]⟩])
 | .inr o=>(.ret,frOf 50 (upd anyF 2 (.bool false)),[])
noncomputable def E64_5 (s55:Int)(x57:(List (List Int)))(a0:Spp)(p5:Int)(p63:Int)(s:Int):Fr×St:=(frOf 50 (upd (upd (upd (upd (upd (upd (upd (upd (upd anyF 1 (.ptr 0 0 0)) 3 (nI s55)) 4 (.ts .imm 1 (x57.map (nLIn .imm)))) 13 (.ts .imm 1 (a0.ranked.map (nLLI .imm)))) 14 (nI p5)) 15 (nI s55)) 23 (.ts .imm 1 (x57.map (nLIn .imm)))) 24 (nI p63)) 25 (nI s)),[some ⟨.box,1,[[.ts .imm 1 (a0.ranked.map (nLLI .imm))]]⟩])
theorem b64_5 (s55:Int)(x57:(List (List Int)))(a0:Spp)(p5:Int)(p63:Int)(s:Int)(o:Ctl Int (Unit ⊕ Unit))(h:m64_5b s55 x57 a0 p63 s=some o):evCL T 0 k64_5b (E64_5 s55 x57 a0 p5 p63 s).1 (E64_5 s55 x57 a0 p5 p63 s).2=some (ctlX (E64_5 s55 x57 a0 p5 p63) (X64_5 s55 x57 a0 p5 p63) o):=by
 unfold m64_5b at h
 revert h
 generalize s=s83;intro h;try simp -implicitDefEqProofs only [go_sem,E64_5,X64_5,k64_5b]
 rcases brx h with ⟨b84,h⟩|⟨b84,h⟩
 · cases h;simp -implicitDefEqProofs only [go_sem,E64_5,X64_5,k64_5b,b84]
 · obtain ⟨x85,g87,g88,g89,h⟩:=bidx (nLIn .imm) h;obtain ⟨v101,w100,h⟩:=bcall (e64_7 s55 x57 s83 a0 p5 p63 x85) h;(try simp -implicitDefEqProofs only [go_sem] at g88 g89);simp only [X64_7] at w100;(try simp -implicitDefEqProofs only [go_sem] at w100);try simp -implicitDefEqProofs only [go_sem,E64_5,X64_5,k64_5b,b84,g87,g88,g89,w100]
   rcases brx h with ⟨b102,h⟩|⟨b102,h⟩
   · cases h;simp -implicitDefEqProofs only [go_sem,E64_5,X64_5,k64_5b,b84,g87,g88,g89,w100,b102]
   · cases h;simp -implicitDefEqProofs only [go_sem,E64_5,X64_5,k64_5b,b84,g87,g88,g89,w100,b102]
theorem e64_5 (s55:Int)(x57:(List (List Int)))(a0:Spp)(p5:Int)(p63:Int)(s:Int)(o:(Unit ⊕ Unit))(h:loopP (m64_5b s55 x57 a0 p63) s=some o):evCL T 0 (.loop k64_5b) (E64_5 s55 x57 a0 p5 p63 s).1 (E64_5 s55 x57 a0 p5 p63 s).2=some (X64_5 s55 x57 a0 p5 p63 o) :=
 loop_walk (E:=E64_5 s55 x57 a0 p5 p63) (X:=X64_5 s55 x57 a0 p5 p63) (by intro b;rcases b with b | b<;>(simp only [X64_5];nofun)) (b64_5 s55 x57 a0 p5 p63) s o h
noncomputable def X64_1 (a0:Spp)(p5:Int)(o:(Unit ⊕ Unit)):Ex×Fr×St :=
 match o with
 | .inl o=>(.exit 0,frOf 50 (anyF),[])
 | .inr o=>(.ret,frOf 50 (upd anyF 2 (.bool false)),[])
noncomputable def E64_1 (a0:Spp)(p5:Int)(s:Int):Fr×St:=(frOf 50 (upd (upd (upd (upd anyF 1 (.ptr 0 0 0)) 13 (.ts .imm 1 (a0.ranked.map (nLLI .imm)))) 14 (nI p5)) 15 (nI s)),[some ⟨.box,1,[[.ts .imm 1 (a0.ranked.map (nLLI .imm))]]⟩])
theorem b64_1 (a0:Spp)(p5:Int)(s:Int)(o:Ctl Int (Unit ⊕ Unit))(h:m64_1b a0 p5 s=some o):evCL T 0 k64_1b (E64_1 a0 p5 s).1 (E64_1 a0 p5 s).2=some (ctlX (E64_1 a0 p5) (X64_1 a0 p5) o):=by
 unfold m64_1b at h
 revert h
 generalize s=s55;intro h;try simp -implicitDefEqProofs only [go_sem,E64_1,X64_1,k64_1b]
 rcases brx h with ⟨b56,h⟩|⟨b56,h⟩
 · cases h;simp -implicitDefEqProofs only [go_sem,E64_1,X64_1,k64_1b,b56]
 · obtain ⟨x57,g59,g60,g61,h⟩:=bidx (nLLI .imm) h;(try simp -implicitDefEqProofs only [go_sem] at g60 g61);try simp -implicitDefEqProofs only [go_sem,E64_1,X64_1,k64_1b,b56,g59,g60,g61]
   rcases brx h with ⟨b62,h⟩|⟨b62,h⟩
   · (try simp -implicitDefEqProofs only [go_sem,E64_1,X64_1,k64_1b,b56,g59,g60,g61,b62]);obtain ⟨o,q103,h⟩:=bnd_some h
     rcases o with ⟨⟩|⟨⟩
     · replace h:=selS_l h;have w104:=e64_5 s55 x57 a0 p5 (↑x57.length:Int) 0 (.inl ()) q103;simp only [E64_5,X64_5] at w104;(try simp -implicitDefEqProofs only [go_sem] at w104);cases h;simp -implicitDefEqProofs only [go_sem,E64_1,X64_1,k64_1b,b56,g59,g60,g61,b62,w104]
     · replace h:=selS_r h;have w104:=e64_5 s55 x57 a0 p5 (↑x57.length:Int) 0 (.inr ()) q103;simp only [E64_5,X64_5] at w104;(try simp -implicitDefEqProofs only [go_sem] at w104);cases h;simp -implicitDefEqProofs only [go_sem,E64_1,X64_1,k64_1b,b56,g59,g60,g61,b62,w104]
   · cases h;simp -implicitDefEqProofs only [go_sem,E64_1,X64_1,k64_1b,b56,g59,g60,g61,b62]
theorem e64_1 (a0:Spp)(p5:Int)(s:Int)(o:(Unit ⊕ Unit))(h:loopP (m64_1b a0 p5) s=some o):evCL T 0 (.loop k64_1b) (E64_1 a0 p5 s).1 (E64_1 a0 p5 s).2=some (X64_1 a0 p5 o) :=
 loop_walk (E:=E64_1 a0 p5) (X:=X64_1 a0 p5) (by intro b;rcases b with b | b<;>(simp only [X64_1];nofun)) (b64_1 a0 p5) s o h
theorem e64 (a0:Spp)(r:Bool)(h:m64 a0=some r):evFL T 64 [.agg [.ts .imm 1 (a0.ranked.map (nLLI .imm))]] []=some (.bool r,[]):=by
 unfold m64 at h;rw [evFL_at fn64 (Nat.le_of_ble_eq_true rfl) rfl (.inr rfl) ⟨rfl,rfl⟩];obtain ⟨r3,w2,h⟩:=bcall (e41 (↑a0.ranked.length:Int) 1 5) h;(try simp -implicitDefEqProofs only [go_sem] at w2);try simp -implicitDefEqProofs only [go_sem,i64,c64,w2]
 rcases brx h with ⟨b4,h⟩|⟨b4,h⟩
 · cases h;simp -implicitDefEqProofs only [go_sem,i64,c64,w2,b4]
 · (try simp -implicitDefEqProofs only [go_sem,i64,c64,w2,b4]);obtain ⟨o,q105,h⟩:=bnd_some h
   rcases o with ⟨⟩|⟨⟩
   · replace h:=selS_l h;have w106:=e64_1 a0 (↑a0.ranked.length:Int) 0 (.inl ()) q105;simp only [E64_1,X64_1] at w106;(try simp -implicitDefEqProofs only [go_sem] at w106);cases h;simp -implicitDefEqProofs only [go_sem,i64,c64,w2,b4,w106]
   · replace h:=selS_r h;have w106:=e64_1 a0 (↑a0.ranked.length:Int) 0 (.inr ()) q105;simp only [E64_1,X64_1] at w106;(try simp -implicitDefEqProofs only [go_sem] at w106);cases h;simp -implicitDefEqProofs only [go_sem,i64,c64,w2,b4,w106]
theorem call30:CL 30 [[0],[3]]:=evCall0 fn30 rfl rfl rfl
theorem calls30 (args:List AV)(S:St):evCall (T.at true) (evFL T) 30 args S=lendC (evFL T 30) S (lendAll S [[0],[3]] args):=evCall0 fns30 rfl rfl rfl args S
attribute [go_sem] call30 calls30
theorem e30 (a0:Int)(a1:List Rel)(r:(Spp×Bool))(h:m30 a0 a1=some r):evFL T 30 [nI a0,.ts .imm 3 (a1.map nRel)] []=some (.tup [.agg [.sl 0 0 r.1.ranked.length],.bool r.2],[some ⟨.arr,1,r.1.ranked.map (nLLI .own)⟩]):=by
 unfold m30 at h;rw [evFL_at fn30 (Nat.le_of_ble_eq_true rfl) rfl (.inr rfl) ⟨rfl,rfl⟩];obtain ⟨r3,w2,h⟩:=bcall (e14 a0 a1) h;(try simp -implicitDefEqProofs only [go_sem] at w2);try simp -implicitDefEqProofs only [go_sem,i30,c30,w2]
 rcases brx h with ⟨b4,h⟩|⟨b4,h⟩
 · cases h;simp -implicitDefEqProofs only [go_sem,i30,c30,w2,b4]
 · obtain ⟨r7,w6,h⟩:=bcall (e63 a0 a1) h;obtain ⟨r10,w9,h⟩:=bcall (e64 r7) h;(try simp -implicitDefEqProofs only [go_sem] at w6 w9);try simp -implicitDefEqProofs only [go_sem,i30,c30,w2,b4,w6,w9]
   rcases brx h with ⟨b11,h⟩|⟨b11,h⟩
   · cases h;simp -implicitDefEqProofs only [go_sem,i30,c30,w2,b4,w6,w9,b11]
   · cases h;simp -implicitDefEqProofs only [go_sem,i30,c30,w2,b4,w6,w9,b11]
theorem call25:CL 25 [[1],[1]]:=evCall0 fn25 rfl rfl rfl
theorem callz25:CZ 25 [[0]] [[1],[1]]:=evCallFz0 fn25 rfl rfl rfl
attribute [go_sem] call25 callz25
noncomputable def X25_1 (a0:List Int)(a1:List Int)(o:(Unit ⊕ Unit)):Ex×Fr×St :=
 match o with
 | .inl o=>(.exit 0,frOf 26 (anyF),[])
 | .inr o=>(.ret,frOf 26 (upd anyF 4 (.bool false)),[])
noncomputable def E25_1 (a0:List Int)(a1:List Int)(s:Int):Fr×St:=(frOf 26 (upd (upd (upd anyF 0 (.ts .imm 1 (a0.map nInt))) 1 (.ts .imm 1 (a1.map nInt))) 5 (nI s)),[])
theorem b25_1 (a0:List Int)(a1:List Int)(s:Int)(o:Ctl Int (Unit ⊕ Unit))(h:m25_1b a0 a1 s=some o):evCL T 0 k25_1b (E25_1 a0 a1 s).1 (E25_1 a0 a1 s).2=some (ctlX (E25_1 a0 a1) (X25_1 a0 a1) o):=by
 unfold m25_1b at h
 revert h
 generalize s=s14;intro h;try simp -implicitDefEqProofs only [go_sem,E25_1,X25_1,k25_1b]
 rcases brx h with ⟨b15,h⟩|⟨b15,h⟩
 · cases h;simp -implicitDefEqProofs only [go_sem,E25_1,X25_1,k25_1b,b15]
 · obtain ⟨x16,g18,g19,g20,h⟩:=bidx nInt h;obtain ⟨x21,g23,g24,g25,h⟩:=bidx nInt h;(try simp -implicitDefEqProofs only [go_sem] at g19 g20 g24 g25);try simp -implicitDefEqProofs only [go_sem,E25_1,X25_1,k25_1b,b15,g18,g19,g20,g23,g24,g25]
   rcases brx h with ⟨b26,h⟩|⟨b26,h⟩
   · cases h;simp -implicitDefEqProofs only [go_sem,E25_1,X25_1,k25_1b,b15,g18,g19,g20,g23,g24,g25,b26]
   · cases h;simp -implicitDefEqProofs only [go_sem,E25_1,X25_1,k25_1b,b15,g18,g19,g20,g23,g24,g25,b26]
theorem e25_1 (a0:List Int)(a1:List Int)(s:Int)(o:(Unit ⊕ Unit))(h:loopP (m25_1b a0 a1) s=some o):evCL T 0 (.loop k25_1b) (E25_1 a0 a1 s).1 (E25_1 a0 a1 s).2=some (X25_1 a0 a1 o) :=
 loop_walk (E:=E25_1 a0 a1) (X:=X25_1 a0 a1) (by intro b;rcases b with b | b<;>(simp only [X25_1];nofun)) (b25_1 a0 a1) s o h
theorem e25 (a0:List Int)(a1:List Int)(r:Bool)(h:m25 a0 a1=some r):evFL T 25 [.ts .imm 1 (a0.map nInt),.ts .imm 1 (a1.map nInt)] []=some (.bool r,[]):=by
 unfold m25 at h;rw [evFL_at fn25 (Nat.le_of_ble_eq_true rfl) rfl (.inr rfl) ⟨rfl,rfl⟩];try simp -implicitDefEqProofs only [go_sem,i25,c25]
 rcases brx h with ⟨b1,h⟩|⟨b1,h⟩
 · cases h;simp -implicitDefEqProofs only [go_sem,i25,c25,b1]
 · (try simp -implicitDefEqProofs only [go_sem,i25,c25,b1]);obtain ⟨o,q27,h⟩:=bnd_some h
   rcases o with ⟨⟩|⟨⟩
   · replace h:=selS_l h;have w28:=e25_1 a0 a1 0 (.inl ()) q27;simp only [E25_1,X25_1] at w28;(try simp -implicitDefEqProofs only [go_sem] at w28);cases h;simp -implicitDefEqProofs only [go_sem,i25,c25,b1,w28]
   · replace h:=selS_r h;have w28:=e25_1 a0 a1 0 (.inr ()) q27;simp only [E25_1,X25_1] at w28;(try simp -implicitDefEqProofs only [go_sem] at w28);cases h;simp -implicitDefEqProofs only [go_sem,i25,c25,b1,w28]
theorem call86:CL 86 [[1],[1]]:=evCall0 fn86 rfl rfl rfl
theorem callz86:CZ 86 [[0]] [[1],[1]]:=evCallFz0 fn86 rfl rfl rfl
attribute [go_sem] call86 callz86
noncomputable def X86_1 (a0:(List (List Int)))(a1:(List (List Int)))(o:(Unit ⊕ Unit)):Ex×Fr×St :=
 match o with
 | .inl o=>(.exit 0,frOf 27 (anyF),[])
 | .inr o=>(.ret,frOf 27 (upd anyF 4 (.bool false)),[])
noncomputable def E86_1 (a0:(List (List Int)))(a1:(List (List Int)))(s:Int):Fr×St:=(frOf 27 (upd (upd (upd anyF 0 (.ts .imm 1 (a0.map (nLIn .imm)))) 1 (.ts .imm 1 (a1.map (nLIn .imm)))) 5 (nI s)),[])
theorem b86_1 (a0:(List (List Int)))(a1:(List (List Int)))(s:Int)(o:Ctl Int (Unit ⊕ Unit))(h:m86_1b a0 a1 s=some o):evCL T 0 k86_1b (E86_1 a0 a1 s).1 (E86_1 a0 a1 s).2=some (ctlX (E86_1 a0 a1) (X86_1 a0 a1) o):=by
 unfold m86_1b at h
 revert h
 generalize s=s17;intro h;try simp -implicitDefEqProofs only [go_sem,E86_1,X86_1,k86_1b]
 rcases brx h with ⟨b18,h⟩|⟨b18,h⟩
 · cases h;simp -implicitDefEqProofs only [go_sem,E86_1,X86_1,k86_1b,b18]
 · obtain ⟨x19,g21,g22,g23,h⟩:=bidx (nLIn .imm) h;obtain ⟨x24,g26,g27,g28,h⟩:=bidx (nLIn .imm) h;obtain ⟨r31,w30,h⟩:=bcall (e25 x19 x24) h;(try simp -implicitDefEqProofs only [go_sem] at g22 g23 g27 g28 w30);try simp -implicitDefEqProofs only [go_sem,E86_1,X86_1,k86_1b,b18,g21,g22,g23,g26,g27,g28,w30]
   rcases brx h with ⟨b32,h⟩|⟨b32,h⟩
   · cases h;simp -implicitDefEqProofs only [go_sem,E86_1,X86_1,k86_1b,b18,g21,g22,g23,g26,g27,g28,w30,b32]
   · cases h;simp -implicitDefEqProofs only [go_sem,E86_1,X86_1,k86_1b,b18,g21,g22,g23,g26,g27,g28,w30,b32]
theorem e86_1 (a0:(List (List Int)))(a1:(List (List Int)))(s:Int)(o:(Unit ⊕ Unit))(h:loopP (m86_1b a0 a1) s=some o):evCL T 0 (.loop k86_1b) (E86_1 a0 a1 s).1 (E86_1 a0 a1 s).2=some (X86_1 a0 a1 o) :=
 loop_walk (E:=E86_1 a0 a1) (X:=X86_1 a0 a1) (by intro b;rcases b with b | b<;>(simp only [X86_1];nofun)) (b86_1 a0 a1) s o h
theorem e86 (a0:(List (List Int)))(a1:(List (List Int)))(r:Bool)(h:m86 a0 a1=some r):evFL T 86 [.ts .imm 1 (a0.map (nLIn .imm)),.ts .imm 1 (a1.map (nLIn .imm))] []=some (.bool r,[]):=by
 unfold m86 at h;rw [evFL_at fn86 (Nat.le_of_ble_eq_true rfl) rfl (.inr rfl) ⟨rfl,rfl⟩];try simp -implicitDefEqProofs only [go_sem,i86,c86]
 rcases brx h with ⟨b1,h⟩|⟨b1,h⟩
 · cases h;simp -implicitDefEqProofs only [go_sem,i86,c86,b1]
 · (try simp -implicitDefEqProofs only [go_sem,i86,c86,b1]);obtain ⟨o,q33,h⟩:=bnd_some h
   rcases o with ⟨⟩|⟨⟩
   · replace h:=selS_l h;have w34:=e86_1 a0 a1 0 (.inl ()) q33;simp only [E86_1,X86_1] at w34;(try simp -implicitDefEqProofs only [go_sem] at w34);cases h;simp -implicitDefEqProofs only [go_sem,i86,c86,b1,w34]
   · replace h:=selS_r h;have w34:=e86_1 a0 a1 0 (.inr ()) q33;simp only [E86_1,X86_1] at w34;(try simp -implicitDefEqProofs only [go_sem] at w34);cases h;simp -implicitDefEqProofs only [go_sem,i86,c86,b1,w34]
@[go_sem] theorem call65:CL 65 [[1],[1]]:=evCall0 fn65 rfl rfl rfl
noncomputable def X65_1 (a0:(List (List (List Int))))(a1:(List (List (List Int))))(o:(Unit ⊕ Unit)):Ex×Fr×St :=
 match o with
 | .inl o=>(.exit 0,frOf 27 (anyF),[])
 | .inr o=>(.ret,frOf 27 (upd anyF 4 (.bool false)),[])
noncomputable def E65_1 (a0:(List (List (List Int))))(a1:(List (List (List Int))))(s:Int):Fr×St:=(frOf 27 (upd (upd (upd anyF 0 (.ts .imm 1 (a0.map (nLLI .imm)))) 1 (.ts .imm 1 (a1.map (nLLI .imm)))) 5 (nI s)),[])
theorem b65_1 (a0:(List (List (List Int))))(a1:(List (List (List Int))))(s:Int)(o:Ctl Int (Unit ⊕ Unit))(h:m65_1b a0 a1 s=some o):evCL T 0 k65_1b (E65_1 a0 a1 s).1 (E65_1 a0 a1 s).2=some (ctlX (E65_1 a0 a1) (X65_1 a0 a1) o):=by
 unfold m65_1b at h
 revert h
 generalize s=s17;intro h;try simp -implicitDefEqProofs only [go_sem,E65_1,X65_1,k65_1b]
 rcases brx h with ⟨b18,h⟩|⟨b18,h⟩
 · cases h;simp -implicitDefEqProofs only [go_sem,E65_1,X65_1,k65_1b,b18]
 · obtain ⟨x19,g21,g22,g23,h⟩:=bidx (nLLI .imm) h;obtain ⟨x24,g26,g27,g28,h⟩:=bidx (nLLI .imm) h;obtain ⟨r31,w30,h⟩:=bcall (e86 x19 x24) h;(try simp -implicitDefEqProofs only [go_sem] at g22 g23 g27 g28 w30);try simp -implicitDefEqProofs only [go_sem,E65_1,X65_1,k65_1b,b18,g21,g22,g23,g26,g27,g28,w30]
   rcases brx h with ⟨b32,h⟩|⟨b32,h⟩
   · cases h;simp -implicitDefEqProofs only [go_sem,E65_1,X65_1,k65_1b,b18,g21,g22,g23,g26,g27,g28,w30,b32]
   · cases h;simp -implicitDefEqProofs only [go_sem,E65_1,X65_1,k65_1b,b18,g21,g22,g23,g26,g27,g28,w30,b32]
theorem e65_1 (a0:(List (List (List Int))))(a1:(List (List (List Int))))(s:Int)(o:(Unit ⊕ Unit))(h:loopP (m65_1b a0 a1) s=some o):evCL T 0 (.loop k65_1b) (E65_1 a0 a1 s).1 (E65_1 a0 a1 s).2=some (X65_1 a0 a1 o) :=
 loop_walk (E:=E65_1 a0 a1) (X:=X65_1 a0 a1) (by intro b;rcases b with b | b<;>(simp only [X65_1];nofun)) (b65_1 a0 a1) s o h
theorem e65 (a0:(List (List (List Int))))(a1:(List (List (List Int))))(r:Bool)(h:m65 a0 a1=some r):evFL T 65 [.ts .imm 1 (a0.map (nLLI .imm)),.ts .imm 1 (a1.map (nLLI .imm))] []=some (.bool r,[]):=by
 unfold m65 at h;rw [evFL_at fn65 (Nat.le_of_ble_eq_true rfl) rfl (.inr rfl) ⟨rfl,rfl⟩];try simp -implicitDefEqProofs only [go_sem,i65,c65]
 rcases brx h with ⟨b1,h⟩|⟨b1,h⟩
 · cases h;simp -implicitDefEqProofs only [go_sem,i65,c65,b1]
 · (try simp -implicitDefEqProofs only [go_sem,i65,c65,b1]);obtain ⟨o,q33,h⟩:=bnd_some h
   rcases o with ⟨⟩|⟨⟩
   · replace h:=selS_l h;have w34:=e65_1 a0 a1 0 (.inl ()) q33;simp only [E65_1,X65_1] at w34;(try simp -implicitDefEqProofs only [go_sem] at w34);cases h;simp -implicitDefEqProofs only [go_sem,i65,c65,b1,w34]
   · replace h:=selS_r h;have w34:=e65_1 a0 a1 0 (.inr ()) q33;simp only [E65_1,X65_1] at w34;(try simp -implicitDefEqProofs only [go_sem] at w34);cases h;simp -implicitDefEqProofs only [go_sem,i65,c65,b1,w34]
theorem call31:CL 31 [[1],[1]]:=evCall0 fn31 rfl rfl rfl
theorem calls31 (args:List AV)(S:St):evCall (T.at true) (evFL T) 31 args S=lendC (evFL T 31) S (lendAll S [[1],[1]] args):=evCall0 fns31 rfl rfl rfl args S
attribute [go_sem] call31 calls31
theorem e31 (a0:Spp)(a1:Spp)(r:Bool)(h:m31 a0 a1=some r):evFL T 31 [.agg [.ts .imm 1 (a0.ranked.map (nLLI .imm))],.agg [.ts .imm 1 (a1.ranked.map (nLLI .imm))]] []=some (.bool r,[]):=by
 unfold m31 at h;rw [evFL_at fn31 (Nat.le_of_ble_eq_true rfl) rfl (.inr rfl) ⟨rfl,rfl⟩];obtain ⟨r3,w2,h⟩:=bcall (e65 a0.ranked a1.ranked) h;(try simp -implicitDefEqProofs only [go_sem] at w2);try simp -implicitDefEqProofs only [go_sem,i31,c31,w2]
 rcases brx h with ⟨b4,h⟩|⟨b4,h⟩
 · cases h;simp -implicitDefEqProofs only [go_sem,i31,c31,w2,b4]
 · cases h;simp -implicitDefEqProofs only [go_sem,i31,c31,w2,b4]
theorem call44:CL 44 [[0,0,0],[0,0,0]]:=evCall0 fn44 rfl rfl rfl
theorem callz44:CZ 44 [[0]] [[0,0,0],[0,0,0]]:=evCallFz0 fn44 rfl rfl rfl
attribute [go_sem] call44 callz44
theorem e44 (a0:Rel)(a1:Rel)(r:Bool)(h:m44 a0 a1=some r):evFL T 44 [.agg (nRel a0),.agg (nRel a1)] []=some (.bool r,[]):=by
 unfold m44 at h;rw [evFL_at fn44 (Nat.le_of_ble_eq_true rfl) rfl (.inr rfl) ⟨rfl,rfl⟩];try simp -implicitDefEqProofs only [go_sem,i44,c44]
 rcases brx h with ⟨b1,h⟩|⟨b1,h⟩
 · cases h;simp -implicitDefEqProofs only [go_sem,i44,c44,b1]
 · try simp -implicitDefEqProofs only [go_sem,i44,c44,b1]
   rcases brx h with ⟨b2,h⟩|⟨b2,h⟩
   · cases h;simp -implicitDefEqProofs only [go_sem,i44,c44,b1,b2]
   · try simp -implicitDefEqProofs only [go_sem,i44,c44,b1,b2]
     rcases brx h with ⟨b3,h⟩|⟨b3,h⟩
     · cases h;simp -implicitDefEqProofs only [go_sem,i44,c44,b1,b2,b3]
     · cases h;simp -implicitDefEqProofs only [go_sem,i44,c44,b1,b2,b3]
theorem call15:CL 15 [[3],[3]]:=evCall0 fn15 rfl rfl rfl
theorem calls15 (args:List AV)(S:St):evCall (T.at true) (evFL T) 15 args S=lendC (evFL T 15) S (lendAll S [[3],[3]] args):=evCall0 fns15 rfl rfl rfl args S
attribute [go_sem] call15 calls15
noncomputable def X15_1 (a0:List Rel)(a1:List Rel)(o:(Unit ⊕ Unit)):Ex×Fr×St :=
 match o with
 | .inl o=>(.exit 0,frOf 27 (anyF),[])
 | .inr o=>(.ret,frOf 27 (upd anyF 4 (.bool false)),[])
noncomputable def E15_1 (a0:List Rel)(a1:List Rel)(s:Int):Fr×St:=(frOf 27 (upd (upd (upd anyF 0 (.ts .imm 3 (a0.map nRel))) 1 (.ts .imm 3 (a1.map nRel))) 5 (nI s)),[])
theorem b15_1 (a0:List Rel)(a1:List Rel)(s:Int)(o:Ctl Int (Unit ⊕ Unit))(h:m15_1b a0 a1 s=some o):evCL T 0 k15_1b (E15_1 a0 a1 s).1 (E15_1 a0 a1 s).2=some (ctlX (E15_1 a0 a1) (X15_1 a0 a1) o):=by
 unfold m15_1b at h
 revert h
 generalize s=s17;intro h;try simp -implicitDefEqProofs only [go_sem,E15_1,X15_1,k15_1b]
 rcases brx h with ⟨b18,h⟩|⟨b18,h⟩
 · cases h;simp -implicitDefEqProofs only [go_sem,E15_1,X15_1,k15_1b,b18]
 · obtain ⟨x19,g21,g22,g23,h⟩:=bidx nRel h;obtain ⟨x24,g26,g27,g28,h⟩:=bidx nRel h;obtain ⟨r31,w30,h⟩:=bcall (e44 x19 x24) h;(try simp -implicitDefEqProofs only [go_sem] at g22 g23 g27 g28 w30);try simp -implicitDefEqProofs only [go_sem,E15_1,X15_1,k15_1b,b18,g21,g22,g23,g26,g27,g28,w30]
   rcases brx h with ⟨b32,h⟩|⟨b32,h⟩
   · cases h;simp -implicitDefEqProofs only [go_sem,E15_1,X15_1,k15_1b,b18,g21,g22,g23,g26,g27,g28,w30,b32]
   · cases h;simp -implicitDefEqProofs only [go_sem,E15_1,X15_1,k15_1b,b18,g21,g22,g23,g26,g27,g28,w30,b32]
theorem e15_1 (a0:List Rel)(a1:List Rel)(s:Int)(o:(Unit ⊕ Unit))(h:loopP (m15_1b a0 a1) s=some o):evCL T 0 (.loop k15_1b) (E15_1 a0 a1 s).1 (E15_1 a0 a1 s).2=some (X15_1 a0 a1 o) :=
 loop_walk (E:=E15_1 a0 a1) (X:=X15_1 a0 a1) (by intro b;rcases b with b | b<;>(simp only [X15_1];nofun)) (b15_1 a0 a1) s o h
theorem e15 (a0:List Rel)(a1:List Rel)(r:Bool)(h:m15 a0 a1=some r):evFL T 15 [.ts .imm 3 (a0.map nRel),.ts .imm 3 (a1.map nRel)] []=some (.bool r,[]):=by
 unfold m15 at h;rw [evFL_at fn15 (Nat.le_of_ble_eq_true rfl) rfl (.inr rfl) ⟨rfl,rfl⟩];try simp -implicitDefEqProofs only [go_sem,i15,c15]
 rcases brx h with ⟨b1,h⟩|⟨b1,h⟩
 · cases h;simp -implicitDefEqProofs only [go_sem,i15,c15,b1]
 · (try simp -implicitDefEqProofs only [go_sem,i15,c15,b1]);obtain ⟨o,q33,h⟩:=bnd_some h
   rcases o with ⟨⟩|⟨⟩
   · replace h:=selS_l h;have w34:=e15_1 a0 a1 0 (.inl ()) q33;simp only [E15_1,X15_1] at w34;(try simp -implicitDefEqProofs only [go_sem] at w34);cases h;simp -implicitDefEqProofs only [go_sem,i15,c15,b1,w34]
   · replace h:=selS_r h;have w34:=e15_1 a0 a1 0 (.inr ()) q33;simp only [E15_1,X15_1] at w34;(try simp -implicitDefEqProofs only [go_sem] at w34);cases h;simp -implicitDefEqProofs only [go_sem,i15,c15,b1,w34]
theorem call32 (args:List AV)(S:St):evCall T (evFL T) 32 args S=c3A true true (evFL T 32) (rawAll S [[3],[0]] args):=evCall3_g fn32 rfl (fun h=>absurd h.1 (by decide)) args S
theorem calls32 (args:List AV)(S:St):evCall (T.at true) (evFL T) 32 args S=c3A false true (evFL T 32) (rawAll S [[3],[0]] args):=evCall3_g fns32 rfl (fun h=>absurd h.1 (by decide)) args S
attribute [go_sem] call32 calls32
noncomputable def X32_1 (o:(Int×List Rel)):Ex×Fr×St :=
 (.exit 0,frOf 34 (upd anyF 1 (nI o.1)),[some ⟨.arr,3,o.2.map nRel⟩])
noncomputable def E32_1 (s:(Int×Int×List Rel)):Fr×St:=(frOf 34 (upd (upd (upd anyF 0 (.sl 0 0 s.2.2.length)) 1 (nI s.1)) 5 (nI s.2.1)),[some ⟨.arr,3,s.2.2.map nRel⟩])
theorem b32_1 (s:(Int×Int×List Rel))(o:Ctl (Int×Int×List Rel) (Int×List Rel))(h:m32_1b s=some o):evCL T 1 k32_1b (E32_1 s).1 (E32_1 s).2=some (ctlX (E32_1) (X32_1) o):=by
 unfold m32_1b at h;obtain ⟨s7,s8,s9⟩:=s;replace h:=sel3_some h;try simp -implicitDefEqProofs only [go_sem,E32_1,X32_1,k32_1b]
 rcases brx h with ⟨b10,h⟩|⟨b10,h⟩
 · cases h;simp -implicitDefEqProofs only [go_sem,E32_1,X32_1,k32_1b,b10]
 · obtain ⟨x11,g13,g14,g15,h⟩:=bidx nRel h;(try simp -implicitDefEqProofs only [go_sem] at g14 g15);cases h;simp -implicitDefEqProofs only [go_sem,E32_1,X32_1,k32_1b,b10,g13,g14,g15]
theorem e32_1 (s:(Int×Int×List Rel))(o:(Int×List Rel))(h:loopP (m32_1b) s=some o):evCL T 1 (.loop k32_1b) (E32_1 s).1 (E32_1 s).2=some (X32_1 o) :=
 loop_walk (E:=E32_1) (X:=X32_1) (by intro b;(simp only [X32_1];nofun)) (b32_1) s o h
theorem e32 (a0:List Rel)(a1:Int)(r:(Int×List Rel))(h:m32 a0 a1=some r):evFL T 32 [.sl 0 0 a0.length,nI a1] [some ⟨.arr,3,a0.map nRel⟩]=some (nI r.1,[some ⟨.arr,3,r.2.map nRel⟩]):=by
 unfold m32 at h;rw [evFL_at fn32 (Nat.le_of_ble_eq_true rfl) rfl (.inl rfl) ⟨rfl,rfl⟩];obtain ⟨⟨v18,v19⟩,w17,h⟩:=bcall (e32_1 (a1,0,a0)) h;replace h:=sel2_some h;simp only [E32_1,X32_1] at w17;(try simp -implicitDefEqProofs only [go_sem] at w17);cases h;simp -implicitDefEqProofs only [go_sem,i32,c32,w17]
theorem call37 (args:List AV)(S:St):evCall T (evFL T) 37 args S=c3A true true (evFL T 37) (rawAll S [[1],[0]] args):=evCall3_g fn37 rfl (fun h=>absurd h.1 (by decide)) args S
theorem calls37 (args:List AV)(S:St):evCall (T.at true) (evFL T) 37 args S=c3A false true (evFL T 37) (rawAll S [[1],[0]] args):=evCall3_g fns37 rfl (fun h=>absurd h.1 (by decide)) args S
attribute [go_sem] call37 calls37
noncomputable def X37_1 (o:(Int×List Int)):Ex×Fr×St :=
 (.exit 0,frOf 19 (upd anyF 1 (nI o.1)),[some ⟨.arr,1,o.2.map nInt⟩])
noncomputable def E37_1 (s:(Int×Int×List Int)):Fr×St:=(frOf 19 (upd (upd (upd anyF 0 (.sl 0 0 s.2.2.length)) 1 (nI s.1)) 5 (nI s.2.1)),[some ⟨.arr,1,s.2.2.map nInt⟩])
theorem b37_1 (s:(Int×Int×List Int))(o:Ctl (Int×Int×List Int) (Int×List Int))(h:m37_1b s=some o):evCL T 1 k37_1b (E37_1 s).1 (E37_1 s).2=some (ctlX (E37_1) (X37_1) o):=by
 unfold m37_1b at h;obtain ⟨s7,s8,s9⟩:=s;replace h:=sel3_some h;try simp -implicitDefEqProofs only [go_sem,E37_1,X37_1,k37_1b]
 rcases brx h with ⟨b10,h⟩|⟨b10,h⟩
 · cases h;simp -implicitDefEqProofs only [go_sem,E37_1,X37_1,k37_1b,b10]
 · obtain ⟨x11,g13,g14,g15,h⟩:=bidx nInt h;(try simp -implicitDefEqProofs only [go_sem] at g14 g15);cases h;simp -implicitDefEqProofs only [go_sem,E37_1,X37_1,k37_1b,b10,g13,g14,g15]
theorem e37_1 (s:(Int×Int×List Int))(o:(Int×List Int))(h:loopP (m37_1b) s=some o):evCL T 1 (.loop k37_1b) (E37_1 s).1 (E37_1 s).2=some (X37_1 o) :=
 loop_walk (E:=E37_1) (X:=X37_1) (by intro b;(simp only [X37_1];nofun)) (b37_1) s o h
theorem e37 (a0:List Int)(a1:Int)(r:(Int×List Int))(h:m37 a0 a1=some r):evFL T 37 [.sl 0 0 a0.length,nI a1] [some ⟨.arr,1,a0.map nInt⟩]=some (nI r.1,[some ⟨.arr,1,r.2.map nInt⟩]):=by
 unfold m37 at h;rw [evFL_at fn37 (Nat.le_of_ble_eq_true rfl) rfl (.inl rfl) ⟨rfl,rfl⟩];obtain ⟨⟨v18,v19⟩,w17,h⟩:=bcall (e37_1 (a1,0,a0)) h;replace h:=sel2_some h;simp only [E37_1,X37_1] at w17;(try simp -implicitDefEqProofs only [go_sem] at w17);cases h;simp -implicitDefEqProofs only [go_sem,i37,c37,w17]
@[go_sem] theorem calls87 (args:List AV)(S:St):evCall (T.at true) (evFL T) 87 args S=c3A true true (evFL T 87) (rawAll S [[1],[0]] args):=evCall3_g fns87 rfl (fun h=>absurd h.2 (by decide)) args S
noncomputable def X87_1 (o:(Int×List (List Int))):Ex×Fr×St :=
 (.exit 0,frOf 19 (upd anyF 1 (nI o.1)),[some ⟨.arr,1,o.2.map (nLIn .own)⟩])
noncomputable def E87_1 (s:(Int×Int×List (List Int))):Fr×St:=(frOf 19 (upd (upd (upd anyF 0 (.sl 0 0 s.2.2.length)) 1 (nI s.1)) 5 (nI s.2.1)),[some ⟨.arr,1,s.2.2.map (nLIn .own)⟩])
theorem b87_1 (s:(Int×Int×List (List Int)))(o:Ctl (Int×Int×List (List Int)) (Int×List (List Int)))(h:m87_1b s=some o):evCL (T.at true) 1 k87_1b (E87_1 s).1 (E87_1 s).2=some (ctlX (E87_1) (X87_1) o):=by
 unfold m87_1b at h;obtain ⟨s12,s13,s14⟩:=s;replace h:=sel3_some h;try simp -implicitDefEqProofs only [go_sem,E87_1,X87_1,k87_1b]
 rcases brx h with ⟨b15,h⟩|⟨b15,h⟩
 · cases h;simp -implicitDefEqProofs only [go_sem,E87_1,X87_1,k87_1b,b15]
 · obtain ⟨x16,g18,g19,g20,h⟩:=bidx (nLIn .own) h;obtain ⟨⟨r23,r24⟩,w22,h⟩:=bcall (e37 x16 s12) h;replace h:=sel2_some h;(try simp -implicitDefEqProofs only [go_sem] at g19 g20 w22);obtain ⟨g25,h⟩:=ck_some h;(try simp -implicitDefEqProofs only [go_sem] at g25);cases h;simp -implicitDefEqProofs only [go_sem,E87_1,X87_1,k87_1b,b15,g18,g19,g20,w22,g25,take_of_len_map g25]
theorem e87_1 (s:(Int×Int×List (List Int)))(o:(Int×List (List Int)))(h:loopP (m87_1b) s=some o):evCL (T.at true) 1 (.loop k87_1b) (E87_1 s).1 (E87_1 s).2=some (X87_1 o) :=
 loop_walk (E:=E87_1) (X:=X87_1) (by intro b;(simp only [X87_1];nofun)) (b87_1) s o h
theorem e87 (a0:(List (List Int)))(a1:Int)(r:(Int×List (List Int)))(h:m87 a0 a1=some r):evFL T 87 [.sl 0 0 a0.length,nI a1] [some ⟨.arr,1,a0.map (nLIn .own)⟩]=some (nI r.1,[some ⟨.arr,1,r.2.map (nLIn .own)⟩]):=by
 unfold m87 at h;rw [evFL_atS fn87 (Nat.le_of_ble_eq_true rfl) rfl (.inl rfl) ⟨rfl,rfl⟩];obtain ⟨⟨v28,v29⟩,w27,h⟩:=bcall (e87_1 (a1,0,a0)) h;replace h:=sel2_some h;simp only [E87_1,X87_1] at w27;(try simp -implicitDefEqProofs only [go_sem] at w27);cases h;simp -implicitDefEqProofs only [go_sem,i87,c87,w27]
@[go_sem] theorem calls66 (args:List AV)(S:St):evCall (T.at true) (evFL T) 66 args S=c3A true true (evFL T 66) (rawAll S [[1],[0]] args):=evCall3_g fns66 rfl (fun h=>absurd h.2 (by decide)) args S
noncomputable def X66_1 (o:(Int×List (List (List Int)))):Ex×Fr×St :=
 (.exit 0,frOf 19 (upd anyF 1 (nI o.1)),[some ⟨.arr,1,o.2.map (nLLI .own)⟩])
noncomputable def E66_1 (s:(Int×Int×List (List (List Int)))):Fr×St:=(frOf 19 (upd (upd (upd anyF 0 (.sl 0 0 s.2.2.length)) 1 (nI s.1)) 5 (nI s.2.1)),[some ⟨.arr,1,s.2.2.map (nLLI .own)⟩])
theorem b66_1 (s:(Int×Int×List (List (List Int))))(o:Ctl (Int×Int×List (List (List Int))) (Int×List (List (List Int))))(h:m66_1b s=some o):evCL (T.at true) 1 k66_1b (E66_1 s).1 (E66_1 s).2=some (ctlX (E66_1) (X66_1) o):=by
 unfold m66_1b at h;obtain ⟨s12,s13,s14⟩:=s;replace h:=sel3_some h;try simp -implicitDefEqProofs only [go_sem,E66_1,X66_1,k66_1b]
 rcases brx h with ⟨b15,h⟩|⟨b15,h⟩
 · cases h;simp -implicitDefEqProofs only [go_sem,E66_1,X66_1,k66_1b,b15]
 · obtain ⟨x16,g18,g19,g20,h⟩:=bidx (nLLI .own) h;obtain ⟨⟨r23,r24⟩,w22,h⟩:=bcall (e87 x16 s12) h;replace h:=sel2_some h;(try simp -implicitDefEqProofs only [go_sem] at g19 g20 w22);obtain ⟨g25,h⟩:=ck_some h;(try simp -implicitDefEqProofs only [go_sem] at g25);cases h;simp -implicitDefEqProofs only [go_sem,E66_1,X66_1,k66_1b,b15,g18,g19,g20,w22,g25,take_of_len_map g25]
theorem e66_1 (s:(Int×Int×List (List (List Int))))(o:(Int×List (List (List Int))))(h:loopP (m66_1b) s=some o):evCL (T.at true) 1 (.loop k66_1b) (E66_1 s).1 (E66_1 s).2=some (X66_1 o) :=
 loop_walk (E:=E66_1) (X:=X66_1) (by intro b;(simp only [X66_1];nofun)) (b66_1) s o h
theorem e66 (a0:(List (List (List Int))))(a1:Int)(r:(Int×List (List (List Int))))(h:m66 a0 a1=some r):evFL T 66 [.sl 0 0 a0.length,nI a1] [some ⟨.arr,1,a0.map (nLLI .own)⟩]=some (nI r.1,[some ⟨.arr,1,r.2.map (nLLI .own)⟩]):=by
 unfold m66 at h;rw [evFL_atS fn66 (Nat.le_of_ble_eq_true rfl) rfl (.inl rfl) ⟨rfl,rfl⟩];obtain ⟨⟨v28,v29⟩,w27,h⟩:=bcall (e66_1 (a1,0,a0)) h;replace h:=sel2_some h;simp only [E66_1,X66_1] at w27;(try simp -implicitDefEqProofs only [go_sem] at w27);cases h;simp -implicitDefEqProofs only [go_sem,i66,c66,w27]
@[go_sem] theorem calls33 (args:List AV)(S:St):evCall (T.at true) (evFL T) 33 args S=c3A true true (evFL T 33) (rawAll S [[1],[0]] args):=evCall3_g fns33 rfl (fun h=>absurd h.2 (by decide)) args S
theorem e33 (a0:Spp)(a1:Int)(r:(Int×List (List (List Int))))(h:m33 a0 a1=some r):evFL T 33 [.agg [.sl 0 0 a0.ranked.length],nI a1] [some ⟨.arr,1,a0.ranked.map (nLLI .own)⟩]=some (nI r.1,[some ⟨.arr,1,r.2.map (nLLI .own)⟩]):=by
 unfold m33 at h;rw [evFL_atS fn33 (Nat.le_of_ble_eq_true rfl) rfl (.inl rfl) ⟨rfl,rfl⟩];obtain ⟨⟨r3,r4⟩,w2,h⟩:=bcall (e66 a0.ranked a1) h;replace h:=sel2_some h;(try simp -implicitDefEqProofs only [go_sem] at w2);obtain ⟨g5,h⟩:=ck_some h;(try simp -implicitDefEqProofs only [go_sem] at g5);cases h;simp -implicitDefEqProofs only [go_sem,i33,c33,w2,g5,take_of_len_map g5]
@[go_sem] theorem call38:CL 38 [[1],[0]]:=evCall0 fn38 rfl rfl rfl
noncomputable def X38_1 (a0:List Int)(o:(Int ⊕ Unit)):Ex×Fr×St :=
 match o with
 | .inl o=>(.exit 0,frOf 21 (upd anyF 1 (nI o)),[])
 | .inr o=>(.ret,frOf 21 (upd anyF 4 (nI (-1))),[])
noncomputable def E38_1 (a0:List Int)(s:(Int×Int)):Fr×St:=(frOf 21 (upd (upd (upd anyF 0 (.ts .imm 1 (a0.map nInt))) 1 (nI s.1)) 5 (nI s.2)),[])
theorem b38_1 (a0:List Int)(s:(Int×Int))(o:Ctl (Int×Int) (Int ⊕ Unit))(h:m38_1b a0 s=some o):evCL T 0 k38_1b (E38_1 a0 s).1 (E38_1 a0 s).2=some (ctlX (E38_1 a0) (X38_1 a0) o):=by
 unfold m38_1b at h;obtain ⟨s8,s9⟩:=s;replace h:=sel2_some h;try simp -implicitDefEqProofs only [go_sem,E38_1,X38_1,k38_1b]
 rcases brx h with ⟨b10,h⟩|⟨b10,h⟩
 · cases h;simp -implicitDefEqProofs only [go_sem,E38_1,X38_1,k38_1b,b10]
 · obtain ⟨x11,g13,g14,g15,h⟩:=bidx nInt h;(try simp -implicitDefEqProofs only [go_sem] at g14 g15);try simp -implicitDefEqProofs only [go_sem,E38_1,X38_1,k38_1b,b10,g13,g14,g15]
   rcases brx h with ⟨b16,h⟩|⟨b16,h⟩
   · cases h;simp -implicitDefEqProofs only [go_sem,E38_1,X38_1,k38_1b,b10,g13,g14,g15,b16]
   · cases h;simp -implicitDefEqProofs only [go_sem,E38_1,X38_1,k38_1b,b10,g13,g14,g15,b16]
theorem e38_1 (a0:List Int)(s:(Int×Int))(o:(Int ⊕ Unit))(h:loopP (m38_1b a0) s=some o):evCL T 0 (.loop k38_1b) (E38_1 a0 s).1 (E38_1 a0 s).2=some (X38_1 a0 o) :=
 loop_walk (E:=E38_1 a0) (X:=X38_1 a0) (by intro b;rcases b with b | b<;>(simp only [X38_1];nofun)) (b38_1 a0) s o h
theorem e38 (a0:List Int)(a1:Int)(r:Int)(h:m38 a0 a1=some r):evFL T 38 [.ts .imm 1 (a0.map nInt),nI a1] []=some (nI r,[]):=by
 unfold m38 at h;rw [evFL_at fn38 (Nat.le_of_ble_eq_true rfl) rfl (.inr rfl) ⟨rfl,rfl⟩];(try simp -implicitDefEqProofs only [go_sem,i38,c38]);obtain ⟨o,q17,h⟩:=bnd_some h
 rcases o with v19|⟨⟩
 · replace h:=selS_l h;have w18:=e38_1 a0 (a1,0) (.inl v19) q17;simp only [E38_1,X38_1] at w18;(try simp -implicitDefEqProofs only [go_sem] at w18);cases h;simp -implicitDefEqProofs only [go_sem,i38,c38,w18]
 · replace h:=selS_r h;have w18:=e38_1 a0 (a1,0) (.inr ()) q17;simp only [E38_1,X38_1] at w18;(try simp -implicitDefEqProofs only [go_sem] at w18);cases h;simp -implicitDefEqProofs only [go_sem,i38,c38,w18]
@[go_sem] theorem call88:CL 88 [[1],[0]]:=evCall0 fn88 rfl rfl rfl
noncomputable def X88_1 (a0:(List (List Int)))(o:(Int ⊕ Unit)):Ex×Fr×St :=
 match o with
 | .inl o=>(.exit 0,frOf 21 (upd anyF 1 (nI o)),[])
 | .inr o=>(.ret,frOf 21 (upd anyF 4 (nI (-1))),[])
noncomputable def E88_1 (a0:(List (List Int)))(s:(Int×Int)):Fr×St:=(frOf 21 (upd (upd (upd anyF 0 (.ts .imm 1 (a0.map (nLIn .imm)))) 1 (nI s.1)) 5 (nI s.2)),[])
theorem b88_1 (a0:(List (List Int)))(s:(Int×Int))(o:Ctl (Int×Int) (Int ⊕ Unit))(h:m88_1b a0 s=some o):evCL T 0 k88_1b (E88_1 a0 s).1 (E88_1 a0 s).2=some (ctlX (E88_1 a0) (X88_1 a0) o):=by
 unfold m88_1b at h;obtain ⟨s11,s12⟩:=s;replace h:=sel2_some h;try simp -implicitDefEqProofs only [go_sem,E88_1,X88_1,k88_1b]
 rcases brx h with ⟨b13,h⟩|⟨b13,h⟩
 · cases h;simp -implicitDefEqProofs only [go_sem,E88_1,X88_1,k88_1b,b13]
 · obtain ⟨x14,g16,g17,g18,h⟩:=bidx (nLIn .imm) h;obtain ⟨r21,w20,h⟩:=bcall (e38 x14 s11) h;(try simp -implicitDefEqProofs only [go_sem] at g17 g18 w20);try simp -implicitDefEqProofs only [go_sem,E88_1,X88_1,k88_1b,b13,g16,g17,g18,w20]
   rcases brx h with ⟨b22,h⟩|⟨b22,h⟩
   · cases h;simp -implicitDefEqProofs only [go_sem,E88_1,X88_1,k88_1b,b13,g16,g17,g18,w20,b22]
   · cases h;simp -implicitDefEqProofs only [go_sem,E88_1,X88_1,k88_1b,b13,g16,g17,g18,w20,b22]
theorem e88_1 (a0:(List (List Int)))(s:(Int×Int))(o:(Int ⊕ Unit))(h:loopP (m88_1b a0) s=some o):evCL T 0 (.loop k88_1b) (E88_1 a0 s).1 (E88_1 a0 s).2=some (X88_1 a0 o) :=
 loop_walk (E:=E88_1 a0) (X:=X88_1 a0) (by intro b;rcases b with b | b<;>(simp only [X88_1];nofun)) (b88_1 a0) s o h
theorem e88 (a0:(List (List Int)))(a1:Int)(r:Int)(h:m88 a0 a1=some r):evFL T 88 [.ts .imm 1 (a0.map (nLIn .imm)),nI a1] []=some (nI r,[]):=by
 unfold m88 at h;rw [evFL_at fn88 (Nat.le_of_ble_eq_true rfl) rfl (.inr rfl) ⟨rfl,rfl⟩];(try simp -implicitDefEqProofs only [go_sem,i88,c88]);obtain ⟨o,q23,h⟩:=bnd_some h
 rcases o with v25|⟨⟩
 · replace h:=selS_l h;have w24:=e88_1 a0 (a1,0) (.inl v25) q23;simp only [E88_1,X88_1] at w24;(try simp -implicitDefEqProofs only [go_sem] at w24);cases h;simp -implicitDefEqProofs only [go_sem,i88,c88,w24]
 · replace h:=selS_r h;have w24:=e88_1 a0 (a1,0) (.inr ()) q23;simp only [E88_1,X88_1] at w24;(try simp -implicitDefEqProofs only [go_sem] at w24);cases h;simp -implicitDefEqProofs only [go_sem,i88,c88,w24]
@[go_sem] theorem call67:CL 67 [[1],[0]]:=evCall0 fn67 rfl rfl rfl
noncomputable def X67_1 (a0:(List (List (List Int))))(o:(Int ⊕ Unit)):Ex×Fr×St :=
 match o with
 | .inl o=>(.exit 0,frOf 21 (upd anyF 1 (nI o)),[])
 | .inr o=>(.ret,frOf 21 (upd anyF 4 (nI (-1))),[])
noncomputable def E67_1 (a0:(List (List (List Int))))(s:(Int×Int)):Fr×St:=(frOf 21 (upd (upd (upd anyF 0 (.ts .imm 1 (a0.map (nLLI .imm)))) 1 (nI s.1)) 5 (nI s.2)),[])
theorem b67_1 (a0:(List (List (List Int))))(s:(Int×Int))(o:Ctl (Int×Int) (Int ⊕ Unit))(h:m67_1b a0 s=some o):evCL T 0 k67_1b (E67_1 a0 s).1 (E67_1 a0 s).2=some (ctlX (E67_1 a0) (X67_1 a0) o):=by
 unfold m67_1b at h;obtain ⟨s11,s12⟩:=s;replace h:=sel2_some h;try simp -implicitDefEqProofs only [go_sem,E67_1,X67_1,k67_1b]
 rcases brx h with ⟨b13,h⟩|⟨b13,h⟩
 · cases h;simp -implicitDefEqProofs only [go_sem,E67_1,X67_1,k67_1b,b13]
 · obtain ⟨x14,g16,g17,g18,h⟩:=bidx (nLLI .imm) h;obtain ⟨r21,w20,h⟩:=bcall (e88 x14 s11) h;(try simp -implicitDefEqProofs only [go_sem] at g17 g18 w20);try simp -implicitDefEqProofs only [go_sem,E67_1,X67_1,k67_1b,b13,g16,g17,g18,w20]
   rcases brx h with ⟨b22,h⟩|⟨b22,h⟩
   · cases h;simp -implicitDefEqProofs only [go_sem,E67_1,X67_1,k67_1b,b13,g16,g17,g18,w20,b22]
   · cases h;simp -implicitDefEqProofs only [go_sem,E67_1,X67_1,k67_1b,b13,g16,g17,g18,w20,b22]
theorem e67_1 (a0:(List (List (List Int))))(s:(Int×Int))(o:(Int ⊕ Unit))(h:loopP (m67_1b a0) s=some o):evCL T 0 (.loop k67_1b) (E67_1 a0 s).1 (E67_1 a0 s).2=some (X67_1 a0 o) :=
 loop_walk (E:=E67_1 a0) (X:=X67_1 a0) (by intro b;rcases b with b | b<;>(simp only [X67_1];nofun)) (b67_1 a0) s o h
theorem e67 (a0:(List (List (List Int))))(a1:Int)(r:Int)(h:m67 a0 a1=some r):evFL T 67 [.ts .imm 1 (a0.map (nLLI .imm)),nI a1] []=some (nI r,[]):=by
 unfold m67 at h;rw [evFL_at fn67 (Nat.le_of_ble_eq_true rfl) rfl (.inr rfl) ⟨rfl,rfl⟩];(try simp -implicitDefEqProofs only [go_sem,i67,c67]);obtain ⟨o,q23,h⟩:=bnd_some h
 rcases o with v25|⟨⟩
 · replace h:=selS_l h;have w24:=e67_1 a0 (a1,0) (.inl v25) q23;simp only [E67_1,X67_1] at w24;(try simp -implicitDefEqProofs only [go_sem] at w24);cases h;simp -implicitDefEqProofs only [go_sem,i67,c67,w24]
 · replace h:=selS_r h;have w24:=e67_1 a0 (a1,0) (.inr ()) q23;simp only [E67_1,X67_1] at w24;(try simp -implicitDefEqProofs only [go_sem] at w24);cases h;simp -implicitDefEqProofs only [go_sem,i67,c67,w24]
theorem call34:CL 34 [[1],[0]]:=evCall0 fn34 rfl rfl rfl
theorem calls34 (args:List AV)(S:St):evCall (T.at true) (evFL T) 34 args S=lendC (evFL T 34) S (lendAll S [[1],[0]] args):=evCall0 fns34 rfl rfl rfl args S
attribute [go_sem] call34 calls34
theorem e34 (a0:Spp)(a1:Int)(r:Int)(h:m34 a0 a1=some r):evFL T 34 [.agg [.ts .imm 1 (a0.ranked.map (nLLI .imm))],nI a1] []=some (nI r,[]):=by
 unfold m34 at h;rw [evFL_at fn34 (Nat.le_of_ble_eq_true rfl) rfl (.inr rfl) ⟨rfl,rfl⟩];obtain ⟨r3,w2,h⟩:=bcall (e67 a0.ranked a1) h;(try simp -implicitDefEqProofs only [go_sem] at w2);try simp -implicitDefEqProofs only [go_sem,i34,c34,w2]
 rcases brx h with ⟨b4,h⟩|⟨b4,h⟩
 · cases h;simp -implicitDefEqProofs only [go_sem,i34,c34,w2,b4]
 · cases h;simp -implicitDefEqProofs only [go_sem,i34,c34,w2,b4]
noncomputable def X9_1 (a0:Int)(a1:List Rel)(r11:Bool)(r17:Bool)(r10:Spp)(r7:List Rel)(r16:Spp)(o:Bool):Ex×Fr×St :=
 (.normal,frOf 101 (upd (upd (upd (upd (upd (upd (upd (upd anyF 0 (nI a0)) 1 (.ts .imm 3 (a1.map nRel))) 6 (.ptr 0 0 0)) 7 (.bool r11)) 8 (.sl 1 0 r7.length)) 9 (.ptr 2 0 0)) 10 (.bool r17)) 44 (.bool o)),[some ⟨.box,1,[[.ts .imm 1 (r10.ranked.map (nLLI .imm))]]⟩,some ⟨.arr,3,r7.map nRel⟩,some ⟨.box,1,[[.sl 3 0 r16.ranked.length]]⟩,some ⟨.arr,1,r16.ranked.map (nLLI .own)⟩])
theorem e9_1 (a0:Int)(a1:List Rel)(r11:Bool)(r17:Bool)(r10:Spp)(r7:List Rel)(r16:Spp)(o:Bool)(h:m9_1 r11 r17 r10 r16=some o):evCL (T.at true) 0 k9_1 (frOf 101 (upd (upd (upd (upd (upd (upd (upd anyF 0 (nI a0)) 1 (.ts .imm 3 (a1.map nRel))) 6 (.ptr 0 0 0)) 7 (.bool r11)) 8 (.sl 1 0 r7.length)) 9 (.ptr 2 0 0)) 10 (.bool r17))) [some ⟨.box,1,[[.ts .imm 1 (r10.ranked.map (nLLI .imm))]]⟩,some ⟨.arr,3,r7.map nRel⟩,some ⟨.box,1,[[.sl 3 0 r16.ranked.length]]⟩,some ⟨.arr,1,r16.ranked.map (nLLI .own)⟩]=some (X9_1 a0 a1 r11 r17 r10 r7 r16 o):=by
 unfold m9_1 at h;obtain ⟨r20,w19,h⟩:=bcall (e31 r16 r10) h;(try simp -implicitDefEqProofs only [go_sem] at w19);try simp -implicitDefEqProofs only [go_sem,X9_1,k9_1,w19]
 rcases brx h with ⟨b21,h⟩|⟨b21,h⟩
 · cases h;simp -implicitDefEqProofs only [go_sem,X9_1,k9_1,w19,b21]
 · cases h;simp -implicitDefEqProofs only [go_sem,X9_1,k9_1,w19,b21]
noncomputable def X9_2 (a0:Int)(a1:List Rel)(r11:Bool)(r17:Bool)(r34:Int)(r10:Spp)(r16:Spp)(o:Bool):Ex×Fr×St :=
 (.normal,frOf 101 (upd (upd (upd (upd (upd (upd anyF 0 (nI a0)) 1 (.ts .imm 3 (a1.map nRel))) 6 (.ptr 0 0 0)) 7 (.bool r11)) 9 (.ptr 1 0 0)) 65 (.bool o)),[some ⟨.box,1,[[.ts .imm 1 (r10.ranked.map (nLLI .imm))]]⟩,some ⟨.box,1,[[.sl 2 0 r16.ranked.length]]⟩,some ⟨.arr,1,r16.ranked.map (nLLI .own)⟩])
theorem e9_2 (a0:Int)(a1:List Rel)(r11:Bool)(r17:Bool)(r34:Int)(r10:Spp)(r16:Spp)(o:Bool)(h:m9_2 r11 r17 r34 r10 r16=some o):evCL (T.at true) 0 k9_2 (frOf 101 (upd (upd (upd (upd (upd (upd (upd anyF 0 (nI a0)) 1 (.ts .imm 3 (a1.map nRel))) 6 (.ptr 0 0 0)) 7 (.bool r11)) 9 (.ptr 1 0 0)) 10 (.bool r17)) 11 (nI r34))) [some ⟨.box,1,[[.ts .imm 1 (r10.ranked.map (nLLI .imm))]]⟩,some ⟨.box,1,[[.sl 2 0 r16.ranked.length]]⟩,some ⟨.arr,1,r16.ranked.map (nLLI .own)⟩]=some (X9_2 a0 a1 r11 r17 r34 r10 r16 o):=by
 unfold m9_2 at h;try simp -implicitDefEqProofs only [go_sem,X9_2,k9_2]
 rcases brx h with ⟨b37,h⟩|⟨b37,h⟩
 · obtain ⟨r40,w39,h⟩:=bcall (e31 r16 r10) h;(try simp -implicitDefEqProofs only [go_sem] at w39);try simp -implicitDefEqProofs only [go_sem,X9_2,k9_2,b37,w39]
   rcases brx h with ⟨b41,h⟩|⟨b41,h⟩
   · cases h;simp -implicitDefEqProofs only [go_sem,X9_2,k9_2,b37,w39,b41]
   · cases h;simp -implicitDefEqProofs only [go_sem,X9_2,k9_2,b37,w39,b41]
 · cases h;simp -implicitDefEqProofs only [go_sem,X9_2,k9_2,b37]
noncomputable def X9_3 (r11:Bool)(r48:Int)(r17:Bool)(r10:Spp)(r49:List (List (List Int)))(r16:Spp)(o:Bool):Ex×Fr×St :=
 (.normal,frOf 101 (upd (upd (upd anyF 9 (.ptr 0 0 0)) 12 (nI r48)) 92 (.bool o)),[some ⟨.box,1,[[.sl 1 0 r49.length]]⟩,some ⟨.arr,1,r49.map (nLLI .own)⟩])
theorem e9_3 (r11:Bool)(r48:Int)(r17:Bool)(r10:Spp)(r49:List (List (List Int)))(r16:Spp)(o:Bool)(h:m9_3 r11 r17 r10 r16=some o):evCL (T.at true) 0 k9_3 (frOf 101 (upd (upd (upd (upd (upd (upd anyF 6 (.ptr 0 0 0)) 7 (.bool r11)) 9 (.ptr 1 0 0)) 12 (nI r48)) 14 (.ptr 3 0 0)) 15 (.bool r17))) [some ⟨.box,1,[[.ts .imm 1 (r10.ranked.map (nLLI .imm))]]⟩,some ⟨.box,1,[[.sl 2 0 r49.length]]⟩,some ⟨.arr,1,r49.map (nLLI .own)⟩,some ⟨.box,1,[[.sl 4 0 r16.ranked.length]]⟩,some ⟨.arr,1,r16.ranked.map (nLLI .own)⟩]=some (X9_3 r11 r48 r17 r10 r49 r16 o):=by
 unfold m9_3 at h;obtain ⟨r62,w61,h⟩:=bcall (e31 r16 r10) h;(try simp -implicitDefEqProofs only [go_sem] at w61);try simp -implicitDefEqProofs only [go_sem,X9_3,k9_3,w61]
 rcases brx h with ⟨b63,h⟩|⟨b63,h⟩
 · cases h;simp -implicitDefEqProofs only [go_sem,X9_3,k9_3,w61,b63]
 · cases h;simp -implicitDefEqProofs only [go_sem,X9_3,k9_3,w61,b63]
theorem e9 (a0:Int)(a1:List Rel)(r:Bool)(h:m9 a0 a1=some r):evFL T 9 [nI a0,.ts .imm 3 (a1.map nRel)] []=some (.bool r,[]):=by
 unfold m9 at h;rw [evFL_atS fn9 (Nat.le_of_ble_eq_true rfl) rfl (.inr rfl) ⟨rfl,rfl⟩];obtain ⟨r3,w2,h⟩:=bcall (e11 a1 1048576) h;(try simp -implicitDefEqProofs only [go_sem] at w2);try simp -implicitDefEqProofs only [go_sem,i9,c9,w2]
 rcases brx h with ⟨b4,h⟩|⟨b4,h⟩
 · obtain ⟨r7,w6,h⟩:=bcall (e13 a1) h;obtain ⟨⟨r10,r11⟩,w9,h⟩:=bcall (e29 a0 r7) h;replace h:=sel2_some h;obtain ⟨⟨r16,r17⟩,w15,h⟩:=bcall (e30 a0 r7) h;replace h:=sel2_some h;obtain ⟨v24,w23,h⟩:=bcall (e9_1 a0 a1 r11 r17 r10 r7 r16) h;(try simp -implicitDefEqProofs only [go_sem] at w6 w9 w15);simp only [X9_1] at w23;(try simp -implicitDefEqProofs only [go_sem] at w23);try simp -implicitDefEqProofs only [go_sem,i9,c9,w2,b4,w6,w9,w15,w23]
   rcases brx h with ⟨b25,h⟩|⟨b25,h⟩
   · obtain ⟨r30,w29,h⟩:=bcall (e15 r7 r7) h;(try simp -implicitDefEqProofs only [go_sem] at w29);try simp -implicitDefEqProofs only [go_sem,i9,c9,w2,b4,w6,w9,w15,w23,b25,w29]
     rcases brx h with ⟨b31,h⟩|⟨b31,h⟩
     · cases h;simp -implicitDefEqProofs only [go_sem,i9,c9,w2,b4,w6,w9,w15,w23,b25,w29,b31]
     · obtain ⟨⟨r34,r35⟩,w33,h⟩:=bcall (e32 r7 1) h;replace h:=sel2_some h;(try simp -implicitDefEqProofs only [go_sem] at w33);obtain ⟨g36,h⟩:=ck_some h;obtain ⟨v44,w43,h⟩:=bcall (e9_2 a0 a1 r11 r17 r34 r10 r16) h;(try simp -implicitDefEqProofs only [go_sem] at g36);simp only [X9_2] at w43;(try simp -implicitDefEqProofs only [go_sem,g36] at w43);try simp -implicitDefEqProofs only [go_sem,i9,c9,w2,b4,w6,w9,w15,w23,b25,w29,b31,w33,g36,take_of_len_map g36,w43]
       rcases brx h with ⟨b45,h⟩|⟨b45,h⟩
       · obtain ⟨⟨r48,r49⟩,w47,h⟩:=bcall (e33 r16 1) h;replace h:=sel2_some h;(try simp -implicitDefEqProofs only [go_sem,g36] at w47);obtain ⟨g50,h⟩:=ck_some h;obtain ⟨r53,w52,h⟩:=bcall (e34 (⟨r49⟩:Spp) 1) h;(try simp -implicitDefEqProofs only [go_sem] at g50);(try simp -implicitDefEqProofs only [go_sem,g36,g50] at w52);try simp -implicitDefEqProofs only [go_sem,i9,c9,w2,b4,w6,w9,w15,w23,b25,w29,b31,w33,g36,take_of_len_map g36,w43,b45,w47,g50,take_of_len_map g50,w52]
         rcases brx h with ⟨b54,h⟩|⟨b54,h⟩
         · try simp -implicitDefEqProofs only [go_sem,i9,c9,w2,b4,w6,w9,w15,w23,b25,w29,b31,w33,g36,take_of_len_map g36,w43,b45,w47,g50,take_of_len_map g50,w52,b54]
           rcases brx h with ⟨b55,h⟩|⟨b55,h⟩
           · cases h;simp -implicitDefEqProofs only [go_sem,i9,c9,w2,b4,w6,w9,w15,w23,b25,w29,b31,w33,g36,take_of_len_map g36,w43,b45,w47,g50,take_of_len_map g50,w52,b54,b55]
           · obtain ⟨v66,w65,h⟩:=bcall (e9_3 r11 r48 r17 r10 r49 r16) h;simp only [X9_3] at w65;(try simp -implicitDefEqProofs only [go_sem,g36,g50] at w65);try simp -implicitDefEqProofs only [go_sem,i9,c9,w2,b4,w6,w9,w15,w23,b25,w29,b31,w33,g36,take_of_len_map g36,w43,b45,w47,g50,take_of_len_map g50,w52,b54,b55,w65]
             rcases brx h with ⟨b67,h⟩|⟨b67,h⟩
             · cases h;simp -implicitDefEqProofs only [go_sem,i9,c9,w2,b4,w6,w9,w15,w23,b25,w29,b31,w33,g36,take_of_len_map g36,w43,b45,w47,g50,take_of_len_map g50,w52,b54,b55,w65,b67]
             · cases h;simp -implicitDefEqProofs only [go_sem,i9,c9,w2,b4,w6,w9,w15,w23,b25,w29,b31,w33,g36,take_of_len_map g36,w43,b45,w47,g50,take_of_len_map g50,w52,b54,b55,w65,b67]
         · cases h;simp -implicitDefEqProofs only [go_sem,i9,c9,w2,b4,w6,w9,w15,w23,b25,w29,b31,w33,g36,take_of_len_map g36,w43,b45,w47,g50,take_of_len_map g50,w52,b54]
       · cases h;simp -implicitDefEqProofs only [go_sem,i9,c9,w2,b4,w6,w9,w15,w23,b25,w29,b31,w33,g36,take_of_len_map g36,w43,b45]
   · cases h;simp -implicitDefEqProofs only [go_sem,i9,c9,w2,b4,w6,w9,w15,w23,b25]
 · cases h;simp -implicitDefEqProofs only [go_sem,i9,c9,w2,b4]
end Go.Pi.Ytichbkallidkcaa.SppOf
