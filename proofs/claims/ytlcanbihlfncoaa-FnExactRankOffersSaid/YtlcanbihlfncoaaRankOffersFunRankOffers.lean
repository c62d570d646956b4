/- no condition -/
import Derived.Test.YtlcanbihlfncoaaRankOffersTabRankOffers
import Derived.Test.YtlcanbihlfncoaaRankOffersModRankOffers
set_option linter.all false
namespace Go.Pi.Ytlcanbihlfncoaa.RankOffers
open Go Go.Proofs Go.Pi
set_option maxRecDepth 100000
set_option linter.all false
@[go_sem] noncomputable def nInt (x:Int):List AV:=[.int .i64 x]
theorem sq_encInt (q:Ql)(x:Int):setQL q (nInt x)=nInt x:=by simp [nInt]
theorem sqm_encInt (q:Ql)(xs:List Int):setQLL q (xs.map nInt)=xs.map nInt:=by rw [setQLL_map];exact List.map_congr_left (fun x _=>sq_encInt q x)
theorem ow_encInt (x:Int):ownOnlyL (nInt x)=true:=by simp [nInt,ownOnlyL,ownOnly,ownLL_map]
theorem owm_encInt (xs:List Int):ownOnlyLL (xs.map nInt)=true:=ownLL_map _ ow_encInt xs
theorem fi_encInt (x:Int):fine.fineL (nInt x)=true:=by simp [nInt,fine.fineL,fine,fineLL_map]
theorem fim_encInt (xs:List Int):fine.fineLL (xs.map nInt)=true:=fineLL_map _ fi_encInt xs
theorem nu_encInt (x:Int):nude.nudeL (nInt x)=true:=by simp [nInt,nude.nudeL,nude,nudeLL_map]
theorem num_encInt (xs:List Int):nude.nudeLL (xs.map nInt)=true:=nudeLL_map _ nu_encInt xs
theorem st_encInt (q:Ql)(xs:List Int):(xs.map nInt).map (fun x=>x.map (setTop q))=xs.map nInt:=by rw [List.map_map];rfl
@[go_sem] theorem vt_encInt (xs:List Int):(xs.map nInt).map (fun x=>x.map viewTop)=xs.map nInt:=by rw [List.map_map];rfl
attribute [go_sem] st_encInt
attribute [simp] sqm_encInt ow_encInt owm_encInt fi_encInt fim_encInt nu_encInt num_encInt
attribute [go_sem] sqm_encInt owm_encInt fim_encInt num_encInt
@[go_sem] noncomputable def nLIn (q:Ql)(x:List Int):List AV:=[.ts q 1 (x.map nInt)]
theorem sq_encLInt (q q1:Ql)(x:List Int):setQL q (nLIn q1 x)=nLIn q x:=by simp [nLIn,sq_encInt]
theorem sqm_encLInt (q q1:Ql)(xs:List (List Int)):setQLL q (xs.map (nLIn q1))=xs.map (nLIn q):=by rw [setQLL_map];exact List.map_congr_left (fun x _=>sq_encLInt q q1 x)
theorem ow_encLInt (x:List Int):ownOnlyL (nLIn .own x)=true:=by simp [nLIn,ownOnlyL,ownOnly,ownLL_map]
theorem owm_encLInt (xs:List (List Int)):ownOnlyLL (xs.map (nLIn .own))=true:=ownLL_map _ ow_encLInt xs
theorem fi_encLInt (x:List Int):fine.fineL (nLIn .own x)=true:=by simp [nLIn,fine.fineL,fine,fineLL_map]
theorem fim_encLInt (xs:List (List Int)):fine.fineLL (xs.map (nLIn .own))=true:=fineLL_map _ fi_encLInt xs
theorem nu_encLInt (x:List Int):nude.nudeL (nLIn .own x)=true:=by simp [nLIn,nude.nudeL,nude,nudeLL_map]
theorem num_encLInt (xs:List (List Int)):nude.nudeLL (xs.map (nLIn .own))=true:=nudeLL_map _ nu_encLInt xs
theorem st_encLInt (q q1:Ql)(xs:List (List Int)):(xs.map (nLIn q1)).map (fun x=>x.map (setTop q))=xs.map (nLIn q):=by rw [List.map_map];rfl
@[go_sem] theorem fii_encLInt (xs:List (List Int)):fine.fineLL (xs.map (nLIn .imm))=true:=fineLL_map _ (fun x=>by simp [nLIn,fine.fineL,fine]) xs
@[go_sem] theorem vt_encLInt_imm (xs:List (List Int)):(xs.map (nLIn .imm)).map (fun x=>x.map viewTop)=xs.map (nLIn .imm):=by rw [List.map_map];rfl
@[go_sem] theorem vt_encLInt_bor (xs:List (List Int)):(xs.map (nLIn .bor)).map (fun x=>x.map viewTop)=xs.map (nLIn .bor):=by rw [List.map_map];rfl
@[go_sem] theorem vt_encLInt_own (xs:List (List Int)):(xs.map (nLIn .own)).map (fun x=>x.map viewTop)=xs.map (nLIn .bor):=by rw [List.map_map];rfl
attribute [go_sem] st_encLInt
attribute [simp] sqm_encLInt ow_encLInt owm_encLInt fi_encLInt fim_encLInt nu_encLInt num_encLInt
attribute [go_sem] sqm_encLInt owm_encLInt fim_encLInt num_encLInt
@[go_sem] noncomputable def nAtt (q:Ql)(x:Attrs):List AV:=[.int .i64 x.origin,.ts q 1 (x.path.map nInt),.int .i64 x.next,.int .i64 x.med,.int .i64 x.pref,.ts q 1 (x.comms.map nInt)]
theorem sq_encAttrs (q q1:Ql)(x:Attrs):setQL q (nAtt q1 x)=nAtt q x:=by simp [nAtt,sq_encInt,sq_encInt]
theorem sqm_encAttrs (q q1:Ql)(xs:List Attrs):setQLL q (xs.map (nAtt q1))=xs.map (nAtt q):=by rw [setQLL_map];exact List.map_congr_left (fun x _=>sq_encAttrs q q1 x)
theorem ow_encAttrs (x:Attrs):ownOnlyL (nAtt .own x)=true:=by simp [nAtt,ownOnlyL,ownOnly,ownLL_map]
theorem owm_encAttrs (xs:List Attrs):ownOnlyLL (xs.map (nAtt .own))=true:=ownLL_map _ ow_encAttrs xs
theorem fi_encAttrs (x:Attrs):fine.fineL (nAtt .own x)=true:=by simp [nAtt,fine.fineL,fine,fineLL_map]
theorem fim_encAttrs (xs:List Attrs):fine.fineLL (xs.map (nAtt .own))=true:=fineLL_map _ fi_encAttrs xs
theorem nu_encAttrs (x:Attrs):nude.nudeL (nAtt .own x)=true:=by simp [nAtt,nude.nudeL,nude,nudeLL_map]
theorem num_encAttrs (xs:List Attrs):nude.nudeLL (xs.map (nAtt .own))=true:=nudeLL_map _ nu_encAttrs xs
theorem st_encAttrs (q q1:Ql)(xs:List Attrs):(xs.map (nAtt q1)).map (fun x=>x.map (setTop q))=xs.map (nAtt q):=by rw [List.map_map];rfl
@[go_sem] theorem fii_encAttrs (xs:List Attrs):fine.fineLL (xs.map (nAtt .imm))=true:=fineLL_map _ (fun x=>by simp [nAtt,fine.fineL,fine]) xs
@[go_sem] theorem vt_encAttrs_imm (xs:List Attrs):(xs.map (nAtt .imm)).map (fun x=>x.map viewTop)=xs.map (nAtt .imm):=by rw [List.map_map];rfl
@[go_sem] theorem vt_encAttrs_bor (xs:List Attrs):(xs.map (nAtt .bor)).map (fun x=>x.map viewTop)=xs.map (nAtt .bor):=by rw [List.map_map];rfl
@[go_sem] theorem vt_encAttrs_own (xs:List Attrs):(xs.map (nAtt .own)).map (fun x=>x.map viewTop)=xs.map (nAtt .bor):=by rw [List.map_map];rfl
attribute [go_sem] st_encAttrs
attribute [simp] sqm_encAttrs ow_encAttrs owm_encAttrs fi_encAttrs fim_encAttrs nu_encAttrs num_encAttrs
attribute [go_sem] sqm_encAttrs owm_encAttrs fim_encAttrs num_encAttrs
@[go_sem] noncomputable def nOff (q:Ql)(x:Offer):List AV:=[.int .i64 x.peer,.int .i64 x.attrs.origin,.ts q 1 (x.attrs.path.map nInt),.int .i64 x.attrs.next,.int .i64 x.attrs.med,.int .i64 x.attrs.pref,.ts q 1 (x.attrs.comms.map nInt)]
theorem sq_encOffer (q q1:Ql)(x:Offer):setQL q (nOff q1 x)=nOff q x:=by simp [nOff,sq_encInt,sq_encInt]
theorem sqm_encOffer (q q1:Ql)(xs:List Offer):setQLL q (xs.map (nOff q1))=xs.map (nOff q):=by rw [setQLL_map];exact List.map_congr_left (fun x _=>sq_encOffer q q1 x)
theorem ow_encOffer (x:Offer):ownOnlyL (nOff .own x)=true:=by simp [nOff,ownOnlyL,ownOnly,ownLL_map]
theorem owm_encOffer (xs:List Offer):ownOnlyLL (xs.map (nOff .own))=true:=ownLL_map _ ow_encOffer xs
theorem fi_encOffer (x:Offer):fine.fineL (nOff .own x)=true:=by simp [nOff,fine.fineL,fine,fineLL_map]
theorem fim_encOffer (xs:List Offer):fine.fineLL (xs.map (nOff .own))=true:=fineLL_map _ fi_encOffer xs
theorem nu_encOffer (x:Offer):nude.nudeL (nOff .own x)=true:=by simp [nOff,nude.nudeL,nude,nudeLL_map]
theorem num_encOffer (xs:List Offer):nude.nudeLL (xs.map (nOff .own))=true:=nudeLL_map _ nu_encOffer xs
theorem st_encOffer (q q1:Ql)(xs:List Offer):(xs.map (nOff q1)).map (fun x=>x.map (setTop q))=xs.map (nOff q):=by rw [List.map_map];rfl
@[go_sem] theorem fii_encOffer (xs:List Offer):fine.fineLL (xs.map (nOff .imm))=true:=fineLL_map _ (fun x=>by simp [nOff,fine.fineL,fine]) xs
@[go_sem] theorem vt_encOffer_imm (xs:List Offer):(xs.map (nOff .imm)).map (fun x=>x.map viewTop)=xs.map (nOff .imm):=by rw [List.map_map];rfl
@[go_sem] theorem vt_encOffer_bor (xs:List Offer):(xs.map (nOff .bor)).map (fun x=>x.map viewTop)=xs.map (nOff .bor):=by rw [List.map_map];rfl
@[go_sem] theorem vt_encOffer_own (xs:List Offer):(xs.map (nOff .own)).map (fun x=>x.map viewTop)=xs.map (nOff .bor):=by rw [List.map_map];rfl
attribute [go_sem] st_encOffer
attribute [simp] sqm_encOffer ow_encOffer owm_encOffer fi_encOffer fim_encOffer nu_encOffer num_encOffer
attribute [go_sem] sqm_encOffer owm_encOffer fim_encOffer num_encOffer
@[go_sem] noncomputable def nLOf (q:Ql)(x:List Offer):List AV:=[.ts q 7 (x.map (nOff q))]
theorem sq_encLOffer (q q1:Ql)(x:List Offer):setQL q (nLOf q1 x)=nLOf q x:=by simp [nLOf,sq_encOffer]
theorem sqm_encLOffer (q q1:Ql)(xs:List (List Offer)):setQLL q (xs.map (nLOf q1))=xs.map (nLOf q):=by rw [setQLL_map];exact List.map_congr_left (fun x _=>sq_encLOffer q q1 x)
theorem ow_encLOffer (x:List Offer):ownOnlyL (nLOf .own x)=true:=by simp [nLOf,ownOnlyL,ownOnly,ownLL_map]
theorem owm_encLOffer (xs:List (List Offer)):ownOnlyLL (xs.map (nLOf .own))=true:=ownLL_map _ ow_encLOffer xs
theorem fi_encLOffer (x:List Offer):fine.fineL (nLOf .own x)=true:=by simp [nLOf,fine.fineL,fine,fineLL_map]
theorem fim_encLOffer (xs:List (List Offer)):fine.fineLL (xs.map (nLOf .own))=true:=fineLL_map _ fi_encLOffer xs
theorem nu_encLOffer (x:List Offer):nude.nudeL (nLOf .own x)=true:=by simp [nLOf,nude.nudeL,nude,nudeLL_map]
theorem num_encLOffer (xs:List (List Offer)):nude.nudeLL (xs.map (nLOf .own))=true:=nudeLL_map _ nu_encLOffer xs
@[go_sem] theorem fii_encLOffer (xs:List (List Offer)):fine.fineLL (xs.map (nLOf .imm))=true:=fineLL_map _ (fun x=>by simp [nLOf,fine.fineL,fine]) xs
attribute [simp] sqm_encLOffer ow_encLOffer owm_encLOffer fi_encLOffer fim_encLOffer nu_encLOffer num_encLOffer
attribute [go_sem] sqm_encLOffer owm_encLOffer fim_encLOffer num_encLOffer
@[go_sem] noncomputable def nBoo (x:Bool):List AV:=[.bool x]
theorem sq_encBool (q:Ql)(x:Bool):setQL q (nBoo x)=nBoo x:=by simp [nBoo]
theorem sqm_encBool (q:Ql)(xs:List Bool):setQLL q (xs.map nBoo)=xs.map nBoo:=by rw [setQLL_map];exact List.map_congr_left (fun x _=>sq_encBool q x)
theorem ow_encBool (x:Bool):ownOnlyL (nBoo x)=true:=by simp [nBoo,ownOnlyL,ownOnly,ownLL_map]
theorem owm_encBool (xs:List Bool):ownOnlyLL (xs.map nBoo)=true:=ownLL_map _ ow_encBool xs
theorem fi_encBool (x:Bool):fine.fineL (nBoo x)=true:=by simp [nBoo,fine.fineL,fine,fineLL_map]
theorem fim_encBool (xs:List Bool):fine.fineLL (xs.map nBoo)=true:=fineLL_map _ fi_encBool xs
theorem nu_encBool (x:Bool):nude.nudeL (nBoo x)=true:=by simp [nBoo,nude.nudeL,nude,nudeLL_map]
theorem num_encBool (xs:List Bool):nude.nudeLL (xs.map nBoo)=true:=nudeLL_map _ nu_encBool xs
theorem st_encBool (q:Ql)(xs:List Bool):(xs.map nBoo).map (fun x=>x.map (setTop q))=xs.map nBoo:=by rw [List.map_map];rfl
@[go_sem] theorem vt_encBool (xs:List Bool):(xs.map nBoo).map (fun x=>x.map viewTop)=xs.map nBoo:=by rw [List.map_map];rfl
attribute [go_sem] st_encBool
attribute [simp] sqm_encBool ow_encBool owm_encBool fi_encBool fim_encBool nu_encBool num_encBool
attribute [go_sem] sqm_encBool owm_encBool fim_encBool num_encBool
@[go_sem] theorem call78:CL 78 [[1],[0]]:=evCall0 fn78 rfl rfl rfl
theorem e78 (a0:List Int)(a1:Int)(r:Int)(h:m78 a0 a1=some r):evFL T 78 [.ts .imm 1 (a0.map nInt),nI a1] []=some (nI r,[]):=by
 unfold m78 at h;rw [evFL_at fn78 (Nat.le_of_ble_eq_true rfl) rfl (.inr rfl) ⟨rfl,rfl⟩];try simp -implicitDefEqProofs only [go_sem,i78,c78]
 rcases brx h with ⟨b1,h⟩|⟨b1,h⟩
 · cases h;simp -implicitDefEqProofs only [go_sem,i78,c78,b1]
 · cases h;simp -implicitDefEqProofs only [go_sem,i78,c78,b1]
@[go_sem] theorem call51:CL 51 [[0,1,0,0,0,1],[0]]:=evCall0 fn51 rfl rfl rfl
theorem e51 (a0:Attrs)(a1:Int)(r:Int)(h:m51 a0 a1=some r):evFL T 51 [.agg (nAtt .imm a0),nI a1] []=some (nI r,[]):=by
 unfold m51 at h;rw [evFL_at fn51 (Nat.le_of_ble_eq_true rfl) rfl (.inr rfl) ⟨rfl,rfl⟩];obtain ⟨r3,w2,h⟩:=bcall (e78 a0.path a1) h;(try simp -implicitDefEqProofs only [go_sem] at w2);try simp -implicitDefEqProofs only [go_sem,i51,c51,w2]
 rcases brx h with ⟨b4,h⟩|⟨b4,h⟩
 · obtain ⟨r7,w6,h⟩:=bcall (e78 a0.comms r3) h;(try simp -implicitDefEqProofs only [go_sem] at w6);try simp -implicitDefEqProofs only [go_sem,i51,c51,w2,b4,w6]
   rcases brx h with ⟨b8,h⟩|⟨b8,h⟩
   · cases h;simp -implicitDefEqProofs only [go_sem,i51,c51,w2,b4,w6,b8]
   · cases h;simp -implicitDefEqProofs only [go_sem,i51,c51,w2,b4,w6,b8]
 · cases h;simp -implicitDefEqProofs only [go_sem,i51,c51,w2,b4]
@[go_sem] theorem call17:CL 17 [[0,0,1,0,0,0,1],[0]]:=evCall0 fn17 rfl rfl rfl
theorem e17 (a0:Offer)(a1:Int)(r:Int)(h:m17 a0 a1=some r):evFL T 17 [.agg (nOff .imm a0),nI a1] []=some (nI r,[]):=by
 unfold m17 at h;rw [evFL_at fn17 (Nat.le_of_ble_eq_true rfl) rfl (.inr rfl) ⟨rfl,rfl⟩];obtain ⟨r3,w2,h⟩:=bcall (e51 a0.attrs a1) h;(try simp -implicitDefEqProofs only [go_sem] at w2);try simp -implicitDefEqProofs only [go_sem,i17,c17,w2]
 rcases brx h with ⟨b4,h⟩|⟨b4,h⟩
 · cases h;simp -implicitDefEqProofs only [go_sem,i17,c17,w2,b4]
 · cases h;simp -implicitDefEqProofs only [go_sem,i17,c17,w2,b4]
theorem call12:CL 12 [[7],[0]]:=evCall0 fn12 rfl rfl rfl
theorem calls12 (args:List AV)(S:St):evCall (T.at true) (evFL T) 12 args S=lendC (evFL T 12) S (lendAll S [[7],[0]] args):=evCall0 fns12 rfl rfl rfl args S
attribute [go_sem] call12 calls12
noncomputable def X12_1 (a0:List Offer)(o:(Int ⊕ Unit)):Ex×Fr×St :=
 match o with
 | .inl o=>(.exit 0,frOf 27 (upd anyF 1 (nI o)),[])
 | .inr o=>(.ret,frOf 27 (upd anyF 4 (nI (-1))),[])
noncomputable def E12_1 (a0:List Offer)(s:(Int×Int)):Fr×St:=(frOf 27 (upd (upd (upd anyF 0 (.ts .imm 7 (a0.map (nOff .imm)))) 1 (nI s.1)) 5 (nI s.2)),[])
theorem b12_1 (a0:List Offer)(s:(Int×Int))(o:Ctl (Int×Int) (Int ⊕ Unit))(h:m12_1b a0 s=some o):evCL T 0 k12_1b (E12_1 a0 s).1 (E12_1 a0 s).2=some (ctlX (E12_1 a0) (X12_1 a0) o):=by
 unfold m12_1b at h;obtain ⟨s13,s14⟩:=s;replace h:=sel2_some h;try simp -implicitDefEqProofs only [go_sem,E12_1,X12_1,k12_1b]
 rcases brx h with ⟨b15,h⟩|⟨b15,h⟩
 · cases h;simp -implicitDefEqProofs only [go_sem,E12_1,X12_1,k12_1b,b15]
 · obtain ⟨x16,g18,g19,g20,h⟩:=bidx (nOff .imm) h;obtain ⟨r23,w22,h⟩:=bcall (e17 x16 s13) h;(try simp -implicitDefEqProofs only [go_sem] at g19 g20 w22);try simp -implicitDefEqProofs only [go_sem,E12_1,X12_1,k12_1b,b15,g18,g19,g20,w22]
   rcases brx h with ⟨b24,h⟩|⟨b24,h⟩
   · cases h;simp -implicitDefEqProofs only [go_sem,E12_1,X12_1,k12_1b,b15,g18,g19,g20,w22,b24]
   · cases h;simp -implicitDefEqProofs only [go_sem,E12_1,X12_1,k12_1b,b15,g18,g19,g20,w22,b24]
theorem e12_1 (a0:List Offer)(s:(Int×Int))(o:(Int ⊕ Unit))(h:loopP (m12_1b a0) s=some o):evCL T 0 (.loop k12_1b) (E12_1 a0 s).1 (E12_1 a0 s).2=some (X12_1 a0 o) :=
 loop_walk (E:=E12_1 a0) (X:=X12_1 a0) (by intro b;rcases b with b | b<;>(simp only [X12_1];nofun)) (b12_1 a0) s o h
theorem e12 (a0:List Offer)(a1:Int)(r:Int)(h:m12 a0 a1=some r):evFL T 12 [.ts .imm 7 (a0.map (nOff .imm)),nI a1] []=some (nI r,[]):=by
 unfold m12 at h;rw [evFL_at fn12 (Nat.le_of_ble_eq_true rfl) rfl (.inr rfl) ⟨rfl,rfl⟩];try simp -implicitDefEqProofs only [go_sem,i12,c12]
 rcases brx h with ⟨b1,h⟩|⟨b1,h⟩
 · (try simp -implicitDefEqProofs only [go_sem,i12,c12,b1]);obtain ⟨o,q25,h⟩:=bnd_some h
   rcases o with v27|⟨⟩
   · replace h:=selS_l h;have w26:=e12_1 a0 (wsub .i64 a1 (↑a0.length:Int),0) (.inl v27) q25;simp only [E12_1,X12_1] at w26;(try simp -implicitDefEqProofs only [go_sem] at w26);cases h;simp -implicitDefEqProofs only [go_sem,i12,c12,b1,w26]
   · replace h:=selS_r h;have w26:=e12_1 a0 (wsub .i64 a1 (↑a0.length:Int),0) (.inr ()) q25;simp only [E12_1,X12_1] at w26;(try simp -implicitDefEqProofs only [go_sem] at w26);cases h;simp -implicitDefEqProofs only [go_sem,i12,c12,b1,w26]
 · cases h;simp -implicitDefEqProofs only [go_sem,i12,c12,b1]
@[go_sem] theorem call80:CL 80 [[1]]:=evCall0 fn80 rfl rfl rfl
noncomputable def X80_1 (a0:List Int)(o:List Int):Ex×Fr×St :=
 (.exit 0,frOf 22 (upd anyF 3 (.sl 0 0 o.length)),[some ⟨.arr,1,o.map nInt⟩])
noncomputable def E80_1 (a0:List Int)(s:(Int×List Int)):Fr×St:=(frOf 22 (upd (upd (upd anyF 0 (.ts .imm 1 (a0.map nInt))) 3 (.sl 0 0 s.2.length)) 4 (nI s.1)),[some ⟨.arr,1,s.2.map nInt⟩])
theorem b80_1 (a0:List Int)(s:(Int×List Int))(o:Ctl (Int×List Int) (List Int))(h:m80_1b a0 s=some o):evCL T 0 k80_1b (E80_1 a0 s).1 (E80_1 a0 s).2=some (ctlX (E80_1 a0) (X80_1 a0) o):=by
 unfold m80_1b at h;obtain ⟨s14,s15⟩:=s;replace h:=sel2_some h;try simp -implicitDefEqProofs only [go_sem,E80_1,X80_1,k80_1b]
 rcases brx h with ⟨b16,h⟩|⟨b16,h⟩
 · cases h;simp -implicitDefEqProofs only [go_sem,E80_1,X80_1,k80_1b,b16]
 · obtain ⟨x17,g19,g20,g21,h⟩:=bidx nInt h;obtain ⟨x22,g24,g25,g26,h⟩:=bidx nInt h;(try simp -implicitDefEqProofs only [go_sem] at g20 g21 g25 g26);cases h;simp -implicitDefEqProofs only [go_sem,E80_1,X80_1,k80_1b,b16,g19,g20,g21,g24,g25,g26]
theorem e80_1 (a0:List Int)(s:(Int×List Int))(o:List Int)(h:loopP (m80_1b a0) s=some o):evCL T 0 (.loop k80_1b) (E80_1 a0 s).1 (E80_1 a0 s).2=some (X80_1 a0 o) :=
 loop_walk (E:=E80_1 a0) (X:=X80_1 a0) (by intro b;(simp only [X80_1];nofun)) (b80_1 a0) s o h
theorem e80 (a0:List Int)(r:List Int)(h:m80 a0=some r):evFL T 80 [.ts .imm 1 (a0.map nInt)] []=some (.sl 0 0 r.length,[some ⟨.arr,1,r.map nInt⟩]):=by
 unfold m80 at h;rw [evFL_at fn80 (Nat.le_of_ble_eq_true rfl) rfl (.inr rfl) ⟨rfl,rfl⟩];obtain ⟨g1,h⟩:=ck_some h;obtain ⟨v29,w28,h⟩:=bcall (e80_1 a0 (0,List.replicate a0.length 0)) h;(try simp -implicitDefEqProofs only [go_sem] at g1);simp only [E80_1,X80_1] at w28;(try simp -implicitDefEqProofs only [go_sem] at w28);cases h;simp -implicitDefEqProofs only [go_sem,i80,c80,g1,w28]
@[go_sem] theorem call53:CL 53 [[0,1,0,0,0,1]]:=evCall0 fn53 rfl rfl rfl
theorem e53 (a0:Attrs)(r:Attrs)(h:m53 a0=some r):evFL T 53 [.agg (nAtt .imm a0)] []=some (.agg [nI r.origin,.sl 0 0 r.path.length,nI r.next,nI r.med,nI r.pref,.sl 1 0 r.comms.length],[some ⟨.arr,1,r.path.map nInt⟩,some ⟨.arr,1,r.comms.map nInt⟩]):=by
 unfold m53 at h;rw [evFL_at fn53 (Nat.le_of_ble_eq_true rfl) rfl (.inr rfl) ⟨rfl,rfl⟩];obtain ⟨r3,w2,h⟩:=bcall (e80 a0.path) h;obtain ⟨r6,w5,h⟩:=bcall (e80 a0.comms) h;(try simp -implicitDefEqProofs only [go_sem] at w2 w5);cases h;simp -implicitDefEqProofs only [go_sem,i53,c53,w2,w5]
@[go_sem] theorem call19:CL 19 [[0,0,1,0,0,0,1]]:=evCall0 fn19 rfl rfl rfl
theorem e19 (a0:Offer)(r:Offer)(h:m19 a0=some r):evFL T 19 [.agg (nOff .imm a0)] []=some (.agg [nI r.peer,nI r.attrs.origin,.sl 0 0 r.attrs.path.length,nI r.attrs.next,nI r.attrs.med,nI r.attrs.pref,.sl 1 0 r.attrs.comms.length],[some ⟨.arr,1,r.attrs.path.map nInt⟩,some ⟨.arr,1,r.attrs.comms.map nInt⟩]):=by
 unfold m19 at h;rw [evFL_at fn19 (Nat.le_of_ble_eq_true rfl) rfl (.inr rfl) ⟨rfl,rfl⟩];obtain ⟨r3,w2,h⟩:=bcall (e53 a0.attrs) h;(try simp -implicitDefEqProofs only [go_sem] at w2);cases h;simp -implicitDefEqProofs only [go_sem,i19,c19,w2]
theorem call14:CL 14 [[7]]:=evCall0 fn14 rfl rfl rfl
theorem calls14 (args:List AV)(S:St):evCall (T.at true) (evFL T) 14 args S=lendC (evFL T 14) S (lendAll S [[7]] args):=evCall0 fns14 rfl rfl rfl args S
attribute [go_sem] call14 calls14
noncomputable def X14_1 (a0:List Offer)(o:List Offer):Ex×Fr×St :=
 (.exit 0,frOf 23 (upd anyF 3 (.sl 0 0 o.length)),[some ⟨.arr,7,o.map (nOff .own)⟩])
noncomputable def E14_1 (a0:List Offer)(s:(Int×List Offer)):Fr×St:=(frOf 23 (upd (upd (upd anyF 0 (.ts .imm 7 (a0.map (nOff .imm)))) 3 (.sl 0 0 s.2.length)) 4 (nI s.1)),[some ⟨.arr,7,s.2.map (nOff .own)⟩])
theorem b14_1 (a0:List Offer)(s:(Int×List Offer))(o:Ctl (Int×List Offer) (List Offer))(h:m14_1b a0 s=some o):evCL T 0 k14_1b (E14_1 a0 s).1 (E14_1 a0 s).2=some (ctlX (E14_1 a0) (X14_1 a0) o):=by
 unfold m14_1b at h;obtain ⟨s17,s18⟩:=s;replace h:=sel2_some h;try simp -implicitDefEqProofs only [go_sem,E14_1,X14_1,k14_1b]
 rcases brx h with ⟨b19,h⟩|⟨b19,h⟩
 · cases h;simp -implicitDefEqProofs only [go_sem,E14_1,X14_1,k14_1b,b19]
 · obtain ⟨x20,g22,g23,g24,h⟩:=bidx (nOff .imm) h;obtain ⟨r27,w26,h⟩:=bcall (e19 x20) h;obtain ⟨x28,g30,g31,g32,h⟩:=bidx (nOff .own) h;(try simp -implicitDefEqProofs only [go_sem] at g23 g24 w26 g31 g32);cases h;simp -implicitDefEqProofs only [go_sem,E14_1,X14_1,k14_1b,b19,g22,g23,g24,w26,g30,g31,g32]
theorem e14_1 (a0:List Offer)(s:(Int×List Offer))(o:List Offer)(h:loopP (m14_1b a0) s=some o):evCL T 0 (.loop k14_1b) (E14_1 a0 s).1 (E14_1 a0 s).2=some (X14_1 a0 o) :=
 loop_walk (E:=E14_1 a0) (X:=X14_1 a0) (by intro b;(simp only [X14_1];nofun)) (b14_1 a0) s o h
theorem e14 (a0:List Offer)(r:List Offer)(h:m14 a0=some r):evFL T 14 [.ts .imm 7 (a0.map (nOff .imm))] []=some (.sl 0 0 r.length,[some ⟨.arr,7,r.map (nOff .own)⟩]):=by
 unfold m14 at h;rw [evFL_at fn14 (Nat.le_of_ble_eq_true rfl) rfl (.inr rfl) ⟨rfl,rfl⟩];obtain ⟨g1,h⟩:=ck_some h;obtain ⟨v35,w34,h⟩:=bcall (e14_1 a0 (0,List.replicate a0.length (⟨0,(⟨0,[],0,0,0,[]⟩:Attrs)⟩:Offer))) h;(try simp -implicitDefEqProofs only [go_sem] at g1);simp only [E14_1,X14_1] at w34;(try simp -implicitDefEqProofs only [go_sem] at w34);cases h;simp -implicitDefEqProofs only [go_sem,i14,c14,g1,w34]
theorem call48:CL 48 [[0],[0],[0]]:=evCall0 fn48 rfl rfl rfl
theorem callz48:CZ 48 [[0]] [[0],[0],[0]]:=evCallFz0 fn48 rfl rfl rfl
attribute [go_sem] call48 callz48
noncomputable def X48_1 (a0:Int)(a1:Int)(a2:Int)(o:Bool):Ex×Fr×St :=
 (.normal,frOf 15 (upd anyF 6 (.bool o)),[])
theorem e48_1 (a0:Int)(a1:Int)(a2:Int)(o:Bool)(h:m48_1 a0 a1 a2=some o):evCL T 0 k48_1 (frOf 15 (upd (upd (upd anyF 0 (nI a0)) 1 (nI a1)) 2 (nI a2))) []=some (X48_1 a0 a1 a2 o):=by
 unfold m48_1 at h;try simp -implicitDefEqProofs only [go_sem,X48_1,k48_1]
 rcases brx h with ⟨b1,h⟩|⟨b1,h⟩
 · cases h;simp -implicitDefEqProofs only [go_sem,X48_1,k48_1,b1]
 · cases h;simp -implicitDefEqProofs only [go_sem,X48_1,k48_1,b1]
theorem e48 (a0:Int)(a1:Int)(a2:Int)(r:Bool)(h:m48 a0 a1 a2=some r):evFL T 48 [nI a0,nI a1,nI a2] []=some (.bool r,[]):=by
 unfold m48 at h;rw [evFL_at fn48 (Nat.le_of_ble_eq_true rfl) rfl (.inr rfl) ⟨rfl,rfl⟩];obtain ⟨v4,w3,h⟩:=bcall (e48_1 a0 a1 a2) h;simp only [X48_1] at w3;(try simp -implicitDefEqProofs only [go_sem] at w3);cases h;simp -implicitDefEqProofs only [go_sem,i48,c48,w3]
@[go_sem] theorem call75:CL 75 [[0]]:=evCall0 fn75 rfl rfl rfl
theorem e75 (a0:Int)(r:Bool)(h:m75 a0=some r):evFL T 75 [nI a0] []=some (.bool r,[]):=by
 unfold m75 at h;rw [evFL_at fn75 (Nat.le_of_ble_eq_true rfl) rfl (.inr rfl) ⟨rfl,rfl⟩];obtain ⟨r3,w2,h⟩:=bcall (e48 a0 0 4294967295) h;(try simp -implicitDefEqProofs only [go_sem] at w2);cases h;simp -implicitDefEqProofs only [go_sem,i75,c75,w2]
theorem call49:CL 49 [[0,1,0,0,0,1]]:=evCall0 fn49 rfl rfl rfl
theorem callz49:CZ 49 [[0]] [[0,1,0,0,0,1]]:=evCallFz0 fn49 rfl rfl rfl
attribute [go_sem] call49 callz49
noncomputable def X49_1 (a0:Attrs)(p1:Int)(o:(Unit ⊕ Unit)):Ex×Fr×St :=
 match o with
 | .inl o=>(.exit 0,frOf 74 (upd anyF 1 (.ptr 0 0 0)),[some ⟨.box,6,[(nAtt .imm a0)]⟩])
 | .inr o=>(.ret,frOf 74 (upd anyF 2 (.bool false)),[])
noncomputable def E49_1 (a0:Attrs)(p1:Int)(s:Int):Fr×St:=(frOf 74 (upd (upd (upd (upd anyF 1 (.ptr 0 0 0)) 8 (.ts .imm 1 (a0.path.map nInt))) 9 (nI p1)) 10 (nI s)),[some ⟨.box,6,[(nAtt .imm a0)]⟩])
theorem b49_1 (a0:Attrs)(p1:Int)(s:Int)(o:Ctl Int (Unit ⊕ Unit))(h:m49_1b a0 p1 s=some o):evCL T 0 k49_1b (E49_1 a0 p1 s).1 (E49_1 a0 p1 s).2=some (ctlX (E49_1 a0 p1) (X49_1 a0 p1) o):=by
 unfold m49_1b at h
 revert h
 generalize s=s12;intro h;try simp -implicitDefEqProofs only [go_sem,E49_1,X49_1,k49_1b]
 rcases brx h with ⟨b13,h⟩|⟨b13,h⟩
 · cases h;simp -implicitDefEqProofs only [go_sem,E49_1,X49_1,k49_1b,b13]
 · obtain ⟨x14,g16,g17,g18,h⟩:=bidx nInt h;obtain ⟨r21,w20,h⟩:=bcall (e48 x14 1 65535) h;(try simp -implicitDefEqProofs only [go_sem] at g17 g18 w20);try simp -implicitDefEqProofs only [go_sem,E49_1,X49_1,k49_1b,b13,g16,g17,g18,w20]
   rcases brx h with ⟨b22,h⟩|⟨b22,h⟩
   · cases h;simp -implicitDefEqProofs only [go_sem,E49_1,X49_1,k49_1b,b13,g16,g17,g18,w20,b22]
   · cases h;simp -implicitDefEqProofs only [go_sem,E49_1,X49_1,k49_1b,b13,g16,g17,g18,w20,b22]
theorem e49_1 (a0:Attrs)(p1:Int)(s:Int)(o:(Unit ⊕ Unit))(h:loopP (m49_1b a0 p1) s=some o):evCL T 0 (.loop k49_1b) (E49_1 a0 p1 s).1 (E49_1 a0 p1 s).2=some (X49_1 a0 p1 o) :=
 loop_walk (E:=E49_1 a0 p1) (X:=X49_1 a0 p1) (by intro b;rcases b with b | b<;>(simp only [X49_1];nofun)) (b49_1 a0 p1) s o h
noncomputable def X49_4 (s46:Int)(x48:Int)(a0:Attrs)(p25:Int)(o:Bool):Ex×Fr×St :=
 (.normal,frOf 74 (upd (upd (upd (upd (upd anyF 1 (.ptr 0 0 0)) 19 (.ts .imm 1 (a0.comms.map nInt))) 20 (nI p25)) 21 (nI s46)) 42 (.bool o)),[some ⟨.box,6,[(nAtt .imm a0)]⟩])
theorem e49_4 (s46:Int)(x48:Int)(a0:Attrs)(p25:Int)(o:Bool)(h:m49_4 s46 x48 a0=some o):evCL T 0 k49_4 (frOf 74 (upd (upd (upd (upd (upd (upd anyF 1 (.ptr 0 0 0)) 5 (nI s46)) 6 (nI x48)) 19 (.ts .imm 1 (a0.comms.map nInt))) 20 (nI p25)) 21 (nI s46))) [some ⟨.box,6,[(nAtt .imm a0)]⟩]=some (X49_4 s46 x48 a0 p25 o):=by
 unfold m49_4 at h;obtain ⟨r55,w54,h⟩:=bcall (e48 x48 0 1000000) h;(try simp -implicitDefEqProofs only [go_sem] at w54);try simp -implicitDefEqProofs only [go_sem,X49_4,k49_4,w54]
 rcases brx h with ⟨b56,h⟩|⟨b56,h⟩
 · cases h;simp -implicitDefEqProofs only [go_sem,X49_4,k49_4,w54,b56]
 · try simp -implicitDefEqProofs only [go_sem,X49_4,k49_4,w54,b56]
   rcases brx h with ⟨b57,h⟩|⟨b57,h⟩
   · cases h;simp -implicitDefEqProofs only [go_sem,X49_4,k49_4,w54,b56,b57]
   · obtain ⟨x58,g60,g61,g62,h⟩:=bidx nInt h;(try simp -implicitDefEqProofs only [go_sem] at g61 g62);cases h;simp -implicitDefEqProofs only [go_sem,X49_4,k49_4,w54,b56,b57,g60,g61,g62]
noncomputable def X49_2 (a0:Attrs)(p25:Int)(o:(Unit ⊕ Unit)):Ex×Fr×St :=
 match o with
 | .inl o=>(.exit 2,frOf 74 (upd anyF 1 (.ptr 0 0 0)),[some ⟨.box,6,[(nAtt .imm a0)]⟩])
 | .inr o=>(.ret,frOf 74 (upd anyF 2 (.bool false)),[])
noncomputable def E49_2 (a0:Attrs)(p25:Int)(s:Int):Fr×St:=(frOf 74 (upd (upd (upd (upd anyF 1 (.ptr 0 0 0)) 19 (.ts .imm 1 (a0.comms.map nInt))) 20 (nI p25)) 21 (nI s)),[some ⟨.box,6,[(nAtt .imm a0)]⟩])
theorem b49_2 (a0:Attrs)(p25:Int)(s:Int)(o:Ctl Int (Unit ⊕ Unit))(h:m49_2b a0 p25 s=some o):evCL T 0 k49_2b (E49_2 a0 p25 s).1 (E49_2 a0 p25 s).2=some (ctlX (E49_2 a0 p25) (X49_2 a0 p25) o):=by
 unfold m49_2b at h
 revert h
 generalize s=s46;intro h;try simp -implicitDefEqProofs only [go_sem,E49_2,X49_2,k49_2b]
 rcases brx h with ⟨b47,h⟩|⟨b47,h⟩
 · cases h;simp -implicitDefEqProofs only [go_sem,E49_2,X49_2,k49_2b,b47]
 · obtain ⟨x48,g50,g51,g52,h⟩:=bidx nInt h;obtain ⟨v65,w64,h⟩:=bcall (e49_4 s46 x48 a0 p25) h;(try simp -implicitDefEqProofs only [go_sem] at g51 g52);simp only [X49_4] at w64;(try simp -implicitDefEqProofs only [go_sem] at w64);try simp -implicitDefEqProofs only [go_sem,E49_2,X49_2,k49_2b,b47,g50,g51,g52,w64]
   rcases brx h with ⟨b66,h⟩|⟨b66,h⟩
   · cases h;simp -implicitDefEqProofs only [go_sem,E49_2,X49_2,k49_2b,b47,g50,g51,g52,w64,b66]
   · cases h;simp -implicitDefEqProofs only [go_sem,E49_2,X49_2,k49_2b,b47,g50,g51,g52,w64,b66]
theorem e49_2 (a0:Attrs)(p25:Int)(s:Int)(o:(Unit ⊕ Unit))(h:loopP (m49_2b a0 p25) s=some o):evCL T 0 (.loop k49_2b) (E49_2 a0 p25 s).1 (E49_2 a0 p25 s).2=some (X49_2 a0 p25 o) :=
 loop_walk (E:=E49_2 a0 p25) (X:=X49_2 a0 p25) (by intro b;rcases b with b | b<;>(simp only [X49_2];nofun)) (b49_2 a0 p25) s o h
noncomputable def X49_5 (a0:Attrs)(o:Bool):Ex×Fr×St :=
 (.normal,frOf 74 (upd anyF 2 (.bool o)),[])
theorem e49_5 (a0:Attrs)(o:Bool)(h:m49_5 a0=some o):evCL T 0 k49_5 (frOf 74 (upd anyF 1 (.ptr 0 0 0))) [some ⟨.box,6,[(nAtt .imm a0)]⟩]=some (X49_5 a0 o):=by
 unfold m49_5 at h;obtain ⟨r71,w70,h⟩:=bcall (e48 a0.origin 0 2) h;(try simp -implicitDefEqProofs only [go_sem] at w70);try simp -implicitDefEqProofs only [go_sem,X49_5,k49_5,w70]
 rcases brx h with ⟨b72,h⟩|⟨b72,h⟩
 · cases h;simp -implicitDefEqProofs only [go_sem,X49_5,k49_5,w70,b72]
 · try simp -implicitDefEqProofs only [go_sem,X49_5,k49_5,w70,b72]
   rcases brx h with ⟨b73,h⟩|⟨b73,h⟩
   · cases h;simp -implicitDefEqProofs only [go_sem,X49_5,k49_5,w70,b72,b73]
   · obtain ⟨r76,w75,h⟩:=bcall (e75 a0.next) h;(try simp -implicitDefEqProofs only [go_sem] at w75);try simp -implicitDefEqProofs only [go_sem,X49_5,k49_5,w70,b72,b73,w75]
     rcases brx h with ⟨b77,h⟩|⟨b77,h⟩
     · cases h;simp -implicitDefEqProofs only [go_sem,X49_5,k49_5,w70,b72,b73,w75,b77]
     · obtain ⟨r80,w79,h⟩:=bcall (e48 a0.med 0 1000000) h;(try simp -implicitDefEqProofs only [go_sem] at w79);try simp -implicitDefEqProofs only [go_sem,X49_5,k49_5,w70,b72,b73,w75,b77,w79]
       rcases brx h with ⟨b81,h⟩|⟨b81,h⟩
       · cases h;simp -implicitDefEqProofs only [go_sem,X49_5,k49_5,w70,b72,b73,w75,b77,w79,b81]
       · obtain ⟨r84,w83,h⟩:=bcall (e48 a0.pref 0 1000000) h;(try simp -implicitDefEqProofs only [go_sem] at w83);try simp -implicitDefEqProofs only [go_sem,X49_5,k49_5,w70,b72,b73,w75,b77,w79,b81,w83]
         rcases brx h with ⟨b85,h⟩|⟨b85,h⟩
         · cases h;simp -implicitDefEqProofs only [go_sem,X49_5,k49_5,w70,b72,b73,w75,b77,w79,b81,w83,b85]
         · cases h;simp -implicitDefEqProofs only [go_sem,X49_5,k49_5,w70,b72,b73,w75,b77,w79,b81,w83,b85]
theorem e49 (a0:Attrs)(r:Bool)(h:m49 a0=some r):evFL T 49 [.agg (nAtt .imm a0)] []=some (.bool r,[]):=by
 unfold m49 at h;rw [evFL_at fn49 (Nat.le_of_ble_eq_true rfl) rfl (.inr rfl) ⟨rfl,rfl⟩];(try simp -implicitDefEqProofs only [go_sem,i49,c49]);obtain ⟨o,q23,h⟩:=bnd_some h
 rcases o with ⟨⟩|⟨⟩
 · replace h:=selS_l h;have w24:=e49_1 a0 (↑a0.path.length:Int) 0 (.inl ()) q23;simp only [E49_1,X49_1] at w24;(try simp -implicitDefEqProofs only [go_sem] at w24);(try simp -implicitDefEqProofs only [go_sem,i49,c49,w24]);obtain ⟨o,q67,h⟩:=bnd_some h
   rcases o with ⟨⟩|⟨⟩
   · replace h:=selS_l h;have w68:=e49_2 a0 (↑a0.comms.length:Int) 0 (.inl ()) q67;simp only [E49_2,X49_2] at w68;obtain ⟨v88,w87,h⟩:=bcall (e49_5 a0) h;(try simp -implicitDefEqProofs only [go_sem] at w68);simp only [X49_5] at w87;(try simp -implicitDefEqProofs only [go_sem] at w87);cases h;simp -implicitDefEqProofs only [go_sem,i49,c49,w24,w68,w87]
   · replace h:=selS_r h;have w68:=e49_2 a0 (↑a0.comms.length:Int) 0 (.inr ()) q67;simp only [E49_2,X49_2] at w68;(try simp -implicitDefEqProofs only [go_sem] at w68);cases h;simp -implicitDefEqProofs only [go_sem,i49,c49,w24,w68]
 · replace h:=selS_r h;have w24:=e49_1 a0 (↑a0.path.length:Int) 0 (.inr ()) q23;simp only [E49_1,X49_1] at w24;(try simp -implicitDefEqProofs only [go_sem] at w24);cases h;simp -implicitDefEqProofs only [go_sem,i49,c49,w24]
@[go_sem] theorem call13:CL 13 [[7]]:=evCall0 fn13 rfl rfl rfl
noncomputable def X13_3 (a0:List Offer)(s26:Int)(p1:Int)(x28:Offer)(o:Bool):Ex×Fr×St :=
 (.normal,frOf 38 (upd (upd (upd (upd (upd anyF 0 (.ts .imm 7 (a0.map (nOff .imm)))) 5 (.ts .imm 7 (a0.map (nOff .imm)))) 6 (nI p1)) 7 (nI s26)) 36 (.bool o)),[])
theorem e13_3 (a0:List Offer)(s26:Int)(p1:Int)(x28:Offer)(o:Bool)(h:m13_3 a0 s26 x28=some o):evCL T 0 k13_3 (frOf 38 (upd (upd (upd (upd (upd (upd anyF 0 (.ts .imm 7 (a0.map (nOff .imm)))) 3 (nI s26)) 4 (.ptr 0 0 0)) 5 (.ts .imm 7 (a0.map (nOff .imm)))) 6 (nI p1)) 7 (nI s26))) [some ⟨.box,7,[(nOff .imm x28)]⟩]=some (X13_3 a0 s26 p1 x28 o):=by
 unfold m13_3 at h;obtain ⟨r35,w34,h⟩:=bcall (e48 x28.peer 0 5) h;(try simp -implicitDefEqProofs only [go_sem] at w34);try simp -implicitDefEqProofs only [go_sem,X13_3,k13_3,w34]
 rcases brx h with ⟨b36,h⟩|⟨b36,h⟩
 · cases h;simp -implicitDefEqProofs only [go_sem,X13_3,k13_3,w34,b36]
 · obtain ⟨r39,w38,h⟩:=bcall (e49 x28.attrs) h;(try simp -implicitDefEqProofs only [go_sem] at w38);try simp -implicitDefEqProofs only [go_sem,X13_3,k13_3,w34,b36,w38]
   rcases brx h with ⟨b40,h⟩|⟨b40,h⟩
   · cases h;simp -implicitDefEqProofs only [go_sem,X13_3,k13_3,w34,b36,w38,b40]
   · try simp -implicitDefEqProofs only [go_sem,X13_3,k13_3,w34,b36,w38,b40]
     rcases brx h with ⟨b41,h⟩|⟨b41,h⟩
     · cases h;simp -implicitDefEqProofs only [go_sem,X13_3,k13_3,w34,b36,w38,b40,b41]
     · obtain ⟨x42,g44,g45,g46,h⟩:=bidx (nOff .imm) h;(try simp -implicitDefEqProofs only [go_sem] at g45 g46);cases h;simp -implicitDefEqProofs only [go_sem,X13_3,k13_3,w34,b36,w38,b40,b41,g44,g45,g46]
noncomputable def X13_1 (a0:List Offer)(p1:Int)(o:(Unit ⊕ Unit)):Ex×Fr×St :=
 match o with
 | .inl o=>(.exit 0,frOf 38 (anyF),[])
 | .inr o=>(.ret,frOf 38 (upd anyF 2 (.bool false)),[])
noncomputable def E13_1 (a0:List Offer)(p1:Int)(s:Int):Fr×St:=(frOf 38 (upd (upd (upd (upd anyF 0 (.ts .imm 7 (a0.map (nOff .imm)))) 5 (.ts .imm 7 (a0.map (nOff .imm)))) 6 (nI p1)) 7 (nI s)),[])
theorem b13_1 (a0:List Offer)(p1:Int)(s:Int)(o:Ctl Int (Unit ⊕ Unit))(h:m13_1b a0 p1 s=some o):evCL T 0 k13_1b (E13_1 a0 p1 s).1 (E13_1 a0 p1 s).2=some (ctlX (E13_1 a0 p1) (X13_1 a0 p1) o):=by
 unfold m13_1b at h
 revert h
 generalize s=s26;intro h;try simp -implicitDefEqProofs only [go_sem,E13_1,X13_1,k13_1b]
 rcases brx h with ⟨b27,h⟩|⟨b27,h⟩
 · cases h;simp -implicitDefEqProofs only [go_sem,E13_1,X13_1,k13_1b,b27]
 · obtain ⟨x28,g30,g31,g32,h⟩:=bidx (nOff .imm) h;obtain ⟨v49,w48,h⟩:=bcall (e13_3 a0 s26 p1 x28) h;(try simp -implicitDefEqProofs only [go_sem] at g31 g32);simp only [X13_3] at w48;(try simp -implicitDefEqProofs only [go_sem] at w48);try simp -implicitDefEqProofs only [go_sem,E13_1,X13_1,k13_1b,b27,g30,g31,g32,w48]
   rcases brx h with ⟨b50,h⟩|⟨b50,h⟩
   · cases h;simp -implicitDefEqProofs only [go_sem,E13_1,X13_1,k13_1b,b27,g30,g31,g32,w48,b50]
   · cases h;simp -implicitDefEqProofs only [go_sem,E13_1,X13_1,k13_1b,b27,g30,g31,g32,w48,b50]
theorem e13_1 (a0:List Offer)(p1:Int)(s:Int)(o:(Unit ⊕ Unit))(h:loopP (m13_1b a0 p1) s=some o):evCL T 0 (.loop k13_1b) (E13_1 a0 p1 s).1 (E13_1 a0 p1 s).2=some (X13_1 a0 p1 o) :=
 loop_walk (E:=E13_1 a0 p1) (X:=X13_1 a0 p1) (by intro b;rcases b with b | b<;>(simp only [X13_1];nofun)) (b13_1 a0 p1) s o h
theorem e13 (a0:List Offer)(r:Bool)(h:m13 a0=some r):evFL T 13 [.ts .imm 7 (a0.map (nOff .imm))] []=some (.bool r,[]):=by
 unfold m13 at h;rw [evFL_at fn13 (Nat.le_of_ble_eq_true rfl) rfl (.inr rfl) ⟨rfl,rfl⟩];(try simp -implicitDefEqProofs only [go_sem,i13,c13]);obtain ⟨o,q51,h⟩:=bnd_some h
 rcases o with ⟨⟩|⟨⟩
 · replace h:=selS_l h;have w52:=e13_1 a0 (↑a0.length:Int) 0 (.inl ()) q51;simp only [E13_1,X13_1] at w52;(try simp -implicitDefEqProofs only [go_sem] at w52);cases h;simp -implicitDefEqProofs only [go_sem,i13,c13,w52]
 · replace h:=selS_r h;have w52:=e13_1 a0 (↑a0.length:Int) 0 (.inr ()) q51;simp only [E13_1,X13_1] at w52;(try simp -implicitDefEqProofs only [go_sem] at w52);cases h;simp -implicitDefEqProofs only [go_sem,i13,c13,w52]
theorem call79:CL 79 [[0],[0]]:=evCall0 fn79 rfl rfl rfl
theorem callz79:CZ 79 [[0]] [[0],[0]]:=evCallFz0 fn79 rfl rfl rfl
attribute [go_sem] call79 callz79
theorem e79 (a0:Int)(a1:Int)(r:Int)(h:m79 a0 a1=some r):evFL T 79 [nI a0,nI a1] []=some (nI r,[]):=by
 unfold m79 at h;rw [evFL_at fn79 (Nat.le_of_ble_eq_true rfl) rfl (.inr rfl) ⟨rfl,rfl⟩];try simp -implicitDefEqProofs only [go_sem,i79,c79]
 rcases brx h with ⟨b1,h⟩|⟨b1,h⟩
 · try simp -implicitDefEqProofs only [go_sem,i79,c79,b1]
   rcases brx h with ⟨b2,h⟩|⟨b2,h⟩
   · cases h;simp -implicitDefEqProofs only [go_sem,i79,c79,b1,b2]
   · cases h;simp -implicitDefEqProofs only [go_sem,i79,c79,b1,b2]
 · cases h;simp -implicitDefEqProofs only [go_sem,i79,c79,b1]
theorem call52:CL 52 [[0,0,1,0,0,0,1],[0,0,1,0,0,0,1]]:=evCall0 fn52 rfl rfl rfl
theorem callz52:CZ 52 [[0]] [[0,0,1,0,0,0,1],[0,0,1,0,0,0,1]]:=evCallFz0 fn52 rfl rfl rfl
attribute [go_sem] call52 callz52
noncomputable def X52_1 (a0:Offer)(a1:Offer)(p17:List Int)(o:(Unit ⊕ Int)):Ex×Fr×St :=
 match o with
 | .inl o=>(.exit 0,frOf 64 (upd (upd anyF 2 (.ptr 0 0 0)) 3 (.ptr 1 0 0)),[some ⟨.box,7,[(nOff .imm a0)]⟩,some ⟨.box,7,[(nOff .imm a1)]⟩])
 | .inr o=>(.ret,frOf 64 (upd anyF 4 (nI o)),[])
noncomputable def E52_1 (a0:Offer)(a1:Offer)(p17:List Int)(s:Int):Fr×St:=(frOf 64 (upd (upd (upd (upd (upd anyF 2 (.ptr 0 0 0)) 3 (.ptr 1 0 0)) 49 (.sl 2 0 p17.length)) 50 (nI 5)) 51 (nI s)),[some ⟨.box,7,[(nOff .imm a0)]⟩,some ⟨.box,7,[(nOff .imm a1)]⟩,some ⟨.arr,1,p17.map nInt⟩])
theorem b52_1 (a0:Offer)(a1:Offer)(p17:List Int)(s:Int)(o:Ctl Int (Unit ⊕ Int))(h:m52_1b p17 s=some o):evCL T 0 k52_1b (E52_1 a0 a1 p17 s).1 (E52_1 a0 a1 p17 s).2=some (ctlX (E52_1 a0 a1 p17) (X52_1 a0 a1 p17) o):=by
 unfold m52_1b at h
 revert h
 generalize s=s25;intro h;try simp -implicitDefEqProofs only [go_sem,E52_1,X52_1,k52_1b]
 rcases brx h with ⟨b26,h⟩|⟨b26,h⟩
 · cases h;simp -implicitDefEqProofs only [go_sem,E52_1,X52_1,k52_1b,b26]
 · obtain ⟨x27,g29,g30,g31,h⟩:=bidx nInt h;(try simp -implicitDefEqProofs only [go_sem] at g30 g31);try simp -implicitDefEqProofs only [go_sem,E52_1,X52_1,k52_1b,b26,g29,g30,g31]
   rcases brx h with ⟨b32,h⟩|⟨b32,h⟩
   · cases h;simp -implicitDefEqProofs only [go_sem,E52_1,X52_1,k52_1b,b26,g29,g30,g31,b32]
   · cases h;simp -implicitDefEqProofs only [go_sem,E52_1,X52_1,k52_1b,b26,g29,g30,g31,b32]
theorem e52_1 (a0:Offer)(a1:Offer)(p17:List Int)(s:Int)(o:(Unit ⊕ Int))(h:loopP (m52_1b p17) s=some o):evCL T 0 (.loop k52_1b) (E52_1 a0 a1 p17 s).1 (E52_1 a0 a1 p17 s).2=some (X52_1 a0 a1 p17 o) :=
 loop_walk (E:=E52_1 a0 a1 p17) (X:=X52_1 a0 a1 p17) (by intro b;rcases b with b | b<;>(simp only [X52_1];nofun)) (b52_1 a0 a1 p17) s o h
theorem e52 (a0:Offer)(a1:Offer)(r:Int)(h:m52 a0 a1=some r):evFL T 52 [.agg (nOff .imm a0),.agg (nOff .imm a1)] []=some (nI r,[]):=by
 unfold m52 at h;rw [evFL_at fn52 (Nat.le_of_ble_eq_true rfl) rfl (.inr rfl) ⟨rfl,rfl⟩];try simp -implicitDefEqProofs only [go_sem,i52,c52]
 rcases brx h with ⟨b1,h⟩|⟨b1,h⟩
 · obtain ⟨r4,w3,h⟩:=bcall (e79 a1.attrs.pref a0.attrs.pref) h;obtain ⟨r7,w6,h⟩:=bcall (e79 (↑a0.attrs.path.length:Int) (↑a1.attrs.path.length:Int)) h;obtain ⟨r10,w9,h⟩:=bcall (e79 a0.attrs.origin a1.attrs.origin) h;obtain ⟨r13,w12,h⟩:=bcall (e79 a0.attrs.med a1.attrs.med) h;obtain ⟨r16,w15,h⟩:=bcall (e79 a0.attrs.next a1.attrs.next) h;(try simp -implicitDefEqProofs only [go_sem] at w3 w6 w9 w12 w15);(try simp -implicitDefEqProofs only [go_sem,i52,c52,b1,w3,w6,w9,w12,w15]);obtain ⟨o,q33,h⟩:=bnd_some h
   rcases o with ⟨⟩|v38
   · replace h:=selS_l h;have w34:=e52_1 a0 a1 [r4,r7,r10,r13,r16] 0 (.inl ()) q33;simp only [E52_1,X52_1] at w34;obtain ⟨r37,w36,h⟩:=bcall (e79 a0.peer a1.peer) h;(try simp -implicitDefEqProofs only [go_sem] at w34 w36);cases h;simp -implicitDefEqProofs only [go_sem,i52,c52,b1,w3,w6,w9,w12,w15,w34,w36]
   · replace h:=selS_r h;have w34:=e52_1 a0 a1 [r4,r7,r10,r13,r16] 0 (.inr v38) q33;simp only [E52_1,X52_1] at w34;(try simp -implicitDefEqProofs only [go_sem] at w34);cases h;simp -implicitDefEqProofs only [go_sem,i52,c52,b1,w3,w6,w9,w12,w15,w34]
 · cases h;simp -implicitDefEqProofs only [go_sem,i52,c52,b1]
@[go_sem] theorem call63:CL 63 [[7]]:=evCall0 fn63 rfl rfl rfl
noncomputable def X63_4 (a0:List Offer)(s24:Int)(s25:Int)(p1:Int)(x27:Offer)(o:Bool):Ex×Fr×St :=
 (.normal,frOf 27 (upd (upd (upd (upd (upd (upd (upd anyF 0 (.ts .imm 7 (a0.map (nOff .imm)))) 3 (nI s24)) 4 (nI s25)) 6 (.ts .imm 7 (a0.map (nOff .imm)))) 7 (nI p1)) 8 (nI s25)) 23 (.bool o)),[])
theorem e63_4 (a0:List Offer)(s24:Int)(s25:Int)(p1:Int)(x27:Offer)(o:Bool)(h:m63_4 a0 s24 x27=some o):evCL T 0 k63_4 (frOf 27 (upd (upd (upd (upd (upd (upd (upd anyF 0 (.ts .imm 7 (a0.map (nOff .imm)))) 3 (nI s24)) 4 (nI s25)) 5 (.ptr 0 0 0)) 6 (.ts .imm 7 (a0.map (nOff .imm)))) 7 (nI p1)) 8 (nI s25))) [some ⟨.box,7,[(nOff .imm x27)]⟩]=some (X63_4 a0 s24 s25 p1 x27 o):=by
 unfold m63_4 at h;try simp -implicitDefEqProofs only [go_sem,X63_4,k63_4]
 rcases brx h with ⟨b32,h⟩|⟨b32,h⟩
 · obtain ⟨x33,g35,g36,g37,h⟩:=bidx (nOff .imm) h;obtain ⟨r40,w39,h⟩:=bcall (e52 x27 x33) h;(try simp -implicitDefEqProofs only [go_sem] at g36 g37 w39);cases h;simp -implicitDefEqProofs only [go_sem,X63_4,k63_4,b32,g35,g36,g37,w39]
 · cases h;simp -implicitDefEqProofs only [go_sem,X63_4,k63_4,b32]
noncomputable def X63_5 (a0:List Offer)(s24:Int)(s25:Int)(p1:Int)(v43:Bool)(o:Int):Ex×Fr×St :=
 (.normal,frOf 27 (upd (upd (upd (upd (upd anyF 0 (.ts .imm 7 (a0.map (nOff .imm)))) 3 (nI o)) 6 (.ts .imm 7 (a0.map (nOff .imm)))) 7 (nI p1)) 8 (nI s25)),[])
theorem e63_5 (a0:List Offer)(s24:Int)(s25:Int)(p1:Int)(v43:Bool)(o:Int)(h:m63_5 s24 s25 v43=some o):evCL T 0 k63_5 (frOf 27 (upd (upd (upd (upd (upd (upd (upd anyF 0 (.ts .imm 7 (a0.map (nOff .imm)))) 3 (nI s24)) 4 (nI s25)) 6 (.ts .imm 7 (a0.map (nOff .imm)))) 7 (nI p1)) 8 (nI s25)) 23 (.bool v43))) []=some (X63_5 a0 s24 s25 p1 v43 o):=by
 unfold m63_5 at h;try simp -implicitDefEqProofs only [go_sem,X63_5,k63_5]
 rcases brx h with ⟨b44,h⟩|⟨b44,h⟩
 · cases h;simp -implicitDefEqProofs only [go_sem,X63_5,k63_5,b44]
 · cases h;simp -implicitDefEqProofs only [go_sem,X63_5,k63_5,b44]
noncomputable def X63_1 (a0:List Offer)(p1:Int)(o:Int):Ex×Fr×St :=
 (.exit 0,frOf 27 (upd anyF 3 (nI o)),[])
noncomputable def E63_1 (a0:List Offer)(p1:Int)(s:(Int×Int)):Fr×St:=(frOf 27 (upd (upd (upd (upd (upd anyF 0 (.ts .imm 7 (a0.map (nOff .imm)))) 3 (nI s.1)) 6 (.ts .imm 7 (a0.map (nOff .imm)))) 7 (nI p1)) 8 (nI s.2)),[])
theorem b63_1 (a0:List Offer)(p1:Int)(s:(Int×Int))(o:Ctl (Int×Int) Int)(h:m63_1b a0 p1 s=some o):evCL T 0 k63_1b (E63_1 a0 p1 s).1 (E63_1 a0 p1 s).2=some (ctlX (E63_1 a0 p1) (X63_1 a0 p1) o):=by
 unfold m63_1b at h;obtain ⟨s24,s25⟩:=s;replace h:=sel2_some h;try simp -implicitDefEqProofs only [go_sem,E63_1,X63_1,k63_1b]
 rcases brx h with ⟨b26,h⟩|⟨b26,h⟩
 · cases h;simp -implicitDefEqProofs only [go_sem,E63_1,X63_1,k63_1b,b26]
 · obtain ⟨x27,g29,g30,g31,h⟩:=bidx (nOff .imm) h;obtain ⟨v43,w42,h⟩:=bcall (e63_4 a0 s24 s25 p1 x27) h;(try simp -implicitDefEqProofs only [go_sem] at g30 g31);simp only [X63_4] at w42;obtain ⟨v47,w46,h⟩:=bcall (e63_5 a0 s24 s25 p1 v43) h;(try simp -implicitDefEqProofs only [go_sem] at w42);simp only [X63_5] at w46;(try simp -implicitDefEqProofs only [go_sem] at w46);cases h;simp -implicitDefEqProofs only [go_sem,E63_1,X63_1,k63_1b,b26,g29,g30,g31,w42,w46]
theorem e63_1 (a0:List Offer)(p1:Int)(s:(Int×Int))(o:Int)(h:loopP (m63_1b a0 p1) s=some o):evCL T 0 (.loop k63_1b) (E63_1 a0 p1 s).1 (E63_1 a0 p1 s).2=some (X63_1 a0 p1 o) :=
 loop_walk (E:=E63_1 a0 p1) (X:=X63_1 a0 p1) (by intro b;(simp only [X63_1];nofun)) (b63_1 a0 p1) s o h
theorem e63 (a0:List Offer)(r:Int)(h:m63 a0=some r):evFL T 63 [.ts .imm 7 (a0.map (nOff .imm))] []=some (nI r,[]):=by
 unfold m63 at h;rw [evFL_at fn63 (Nat.le_of_ble_eq_true rfl) rfl (.inr rfl) ⟨rfl,rfl⟩];obtain ⟨v50,w49,h⟩:=bcall (e63_1 a0 (↑a0.length:Int) ((-1),0)) h;simp only [E63_1,X63_1] at w49;(try simp -implicitDefEqProofs only [go_sem] at w49);cases h;simp -implicitDefEqProofs only [go_sem,i63,c63,w49]
theorem call31:CL 31 [[7]]:=evCall0 fn31 rfl rfl rfl
theorem calls31 (args:List AV)(S:St):evCall (T.at true) (evFL T) 31 args S=lendC (evFL T 31) S (lendAll S [[7]] args):=evCall0 fns31 rfl rfl rfl args S
attribute [go_sem] call31 calls31
noncomputable def X31_1 (o:List Int):Ex×Fr×St :=
 (.exit 0,frOf 37 (upd anyF 5 (.sl 0 0 o.length)),[some ⟨.arr,1,o.map nInt⟩])
noncomputable def E31_1 (s:(List Offer×List Int)):Fr×St:=(frOf 37 (upd (upd anyF 4 (.sl 0 0 s.1.length)) 5 (.sl 1 0 s.2.length)),[some ⟨.arr,7,s.1.map (nOff .imm)⟩,some ⟨.arr,1,s.2.map nInt⟩])
theorem b31_1 (s:(List Offer×List Int))(o:Ctl (List Offer×List Int) (List Int))(h:m31_1b s=some o):evCL T 0 k31_1b (E31_1 s).1 (E31_1 s).2=some (ctlX (E31_1) (X31_1) o):=by
 unfold m31_1b at h;obtain ⟨s24,s25⟩:=s;replace h:=sel2_some h;try simp -implicitDefEqProofs only [go_sem,E31_1,X31_1,k31_1b]
 rcases brx h with ⟨b26,h⟩|⟨b26,h⟩
 · cases h;simp -implicitDefEqProofs only [go_sem,E31_1,X31_1,k31_1b,b26]
 · obtain ⟨r29,w28,h⟩:=bcall (e63 s24) h;obtain ⟨x30,g32,g33,g34,h⟩:=bidx (nOff .imm) h;(try simp -implicitDefEqProofs only [go_sem] at w28 g33 g34);obtain ⟨g35,h⟩:=ck_some h;(try simp -implicitDefEqProofs only [go_sem] at g35);obtain ⟨g36,h⟩:=ck_some h;try simp -implicitDefEqProofs only [go_sem] at g36
   have g37:0+(r29.toNat)≤s24.length:=by (try simp only [List.length_take,List.length_drop,List.length_append,List.length_set,List.length_cons,List.length_nil]);omega
   have g38:r29.toNat≤s24.length:=by (try simp only [List.length_take,List.length_drop,List.length_append,List.length_set,List.length_cons,List.length_nil]);omega
   obtain ⟨g39,h⟩:=ck_some h;(try simp -implicitDefEqProofs only [go_sem] at g39);try simp -implicitDefEqProofs only [go_sem,g37,g38] at g39
   have g40:¬r29.toNat=s24.length:=by (try simp only [List.length_take,List.length_drop,List.length_append,List.length_set,List.length_cons,List.length_nil]);first | omega | exact wadd_pos (by omega) (by omega)
   obtain ⟨g41,h⟩:=ck_some h;try simp -implicitDefEqProofs only [go_sem] at g41
   have g42:((wadd .i64 r29 1).toNat)+(s24.length-((wadd .i64 r29 1).toNat))≤s24.length:=by (try simp only [List.length_take,List.length_drop,List.length_append,List.length_set,List.length_cons,List.length_nil]);omega
   obtain ⟨g43,h⟩:=ck_some h;(try simp -implicitDefEqProofs only [go_sem] at g43);try simp -implicitDefEqProofs only [go_sem,g37,g38,g40,g42] at g43
   have g44:¬(wadd .i64 r29 1).toNat=0:=by (try simp only [List.length_take,List.length_drop,List.length_append,List.length_set,List.length_cons,List.length_nil]);first | omega | exact wadd_pos (by omega) (by omega)
   cases h;simp -implicitDefEqProofs only [go_sem,E31_1,X31_1,k31_1b,b26,w28,g32,g33,g34,g35,g36,g37,g38,g39,g40,g41,g42,g43,g44]
theorem e31_1 (s:(List Offer×List Int))(o:List Int)(h:loopP (m31_1b) s=some o):evCL T 0 (.loop k31_1b) (E31_1 s).1 (E31_1 s).2=some (X31_1 o) :=
 loop_walk (E:=E31_1) (X:=X31_1) (by intro b;(simp only [X31_1];nofun)) (b31_1) s o h
theorem e31 (a0:List Offer)(r:((List Int)×Bool))(h:m31 a0=some r):evFL T 31 [.ts .imm 7 (a0.map (nOff .imm))] []=some (.tup [.sl 0 0 r.1.length,.bool r.2],[some ⟨.arr,1,r.1.map nInt⟩]):=by
 unfold m31 at h;rw [evFL_at fn31 (Nat.le_of_ble_eq_true rfl) rfl (.inr rfl) ⟨rfl,rfl⟩];obtain ⟨r3,w2,h⟩:=bcall (e13 a0) h;(try simp -implicitDefEqProofs only [go_sem] at w2);try simp -implicitDefEqProofs only [go_sem,i31,c31,w2]
 rcases brx h with ⟨b4,h⟩|⟨b4,h⟩
 · cases h;simp -implicitDefEqProofs only [go_sem,i31,c31,w2,b4]
 · obtain ⟨g5,h⟩:=ck_some h;obtain ⟨v47,w46,h⟩:=bcall (e31_1 (a0,[])) h;(try simp -implicitDefEqProofs only [go_sem] at g5);simp only [E31_1,X31_1] at w46;(try simp -implicitDefEqProofs only [go_sem] at w46);cases h;simp -implicitDefEqProofs only [go_sem,i31,c31,w2,b4,g5,w46]
@[go_sem] theorem call91:CL 91 [[0],[0],[0]]:=evCall0 fn91 rfl rfl rfl
noncomputable def X91_1 (a0:Int)(a1:Int)(a2:Int)(o:Bool):Ex×Fr×St :=
 (.normal,frOf 15 (upd anyF 6 (.bool o)),[])
theorem e91_1 (a0:Int)(a1:Int)(a2:Int)(o:Bool)(h:m91_1 a0 a1 a2=some o):evCL T 0 k91_1 (frOf 15 (upd (upd (upd anyF 0 (nI a0)) 1 (nI a1)) 2 (nI a2))) []=some (X91_1 a0 a1 a2 o):=by
 unfold m91_1 at h;try simp -implicitDefEqProofs only [go_sem,X91_1,k91_1]
 rcases brx h with ⟨b1,h⟩|⟨b1,h⟩
 · cases h;simp -implicitDefEqProofs only [go_sem,X91_1,k91_1,b1]
 · cases h;simp -implicitDefEqProofs only [go_sem,X91_1,k91_1,b1]
theorem e91 (a0:Int)(a1:Int)(a2:Int)(r:Bool)(h:m91 a0 a1 a2=some r):evFL T 91 [nI a0,nI a1,nI a2] []=some (.bool r,[]):=by
 unfold m91 at h;rw [evFL_at fn91 (Nat.le_of_ble_eq_true rfl) rfl (.inr rfl) ⟨rfl,rfl⟩];obtain ⟨v4,w3,h⟩:=bcall (e91_1 a0 a1 a2) h;simp only [X91_1] at w3;(try simp -implicitDefEqProofs only [go_sem] at w3);cases h;simp -implicitDefEqProofs only [go_sem,i91,c91,w3]
@[go_sem] theorem call76:CL 76 [[0]]:=evCall0 fn76 rfl rfl rfl
theorem e76 (a0:Int)(r:Bool)(h:m76 a0=some r):evFL T 76 [nI a0] []=some (.bool r,[]):=by
 unfold m76 at h;rw [evFL_at fn76 (Nat.le_of_ble_eq_true rfl) rfl (.inr rfl) ⟨rfl,rfl⟩];obtain ⟨r3,w2,h⟩:=bcall (e91 a0 0 5) h;(try simp -implicitDefEqProofs only [go_sem] at w2);cases h;simp -implicitDefEqProofs only [go_sem,i76,c76,w2]
@[go_sem] theorem call115:CL 115 [[1],[0]]:=evCall0 fn115 rfl rfl rfl
noncomputable def X115_1 (a1_f:Nat)(a1_c:List AV)(a0:List Int)(p1:Int)(a1:(Int→Option Bool))(o:(Unit ⊕ Int)):Ex×Fr×St :=
 match o with
 | .inl o=>(.exit 0,frOf 19 (anyF),[])
 | .inr o=>(.ret,frOf 19 (upd anyF 4 (nI o)),[])
noncomputable def E115_1 (a1_f:Nat)(a1_c:List AV)(a0:List Int)(p1:Int)(a1:(Int→Option Bool))(s:Int):Fr×St:=(frOf 19 (upd (upd (upd (upd anyF 0 (.ts .imm 1 (a0.map nInt))) 1 (.fn a1_f a1_c)) 7 (nI p1)) 8 (nI s)),[])
theorem b115_1 (a0:List Int)(p1:Int)(a1:(Int→Option Bool))(a1_f:Nat)(a1_c:List AV)(a1_h:capOk a1_c∧∀y0 r,a1 y0=some r→clR a1_f a1_c [nI y0] (.bool r))(s:Int)(o:Ctl Int (Unit ⊕ Int))(h:m115_1b a0 p1 a1 s=some o):evCL T 0 k115_1b (E115_1 a1_f a1_c a0 p1 a1 s).1 (E115_1 a1_f a1_c a0 p1 a1 s).2=some (ctlX (E115_1 a1_f a1_c a0 p1 a1) (X115_1 a1_f a1_c a0 p1 a1) o):=by
 unfold m115_1b at h
 revert h
 generalize s=s12;intro h;try simp -implicitDefEqProofs only [go_sem,E115_1,X115_1,k115_1b,a1_h.1]
 rcases brx h with ⟨b13,h⟩|⟨b13,h⟩
 · cases h;simp -implicitDefEqProofs only [go_sem,E115_1,X115_1,k115_1b,a1_h.1,b13]
 · obtain ⟨x14,g16,g17,g18,h⟩:=bidx nInt h;obtain ⟨r19,w21,h⟩:=bcall (a1_h.2 x14) h;(try simp -implicitDefEqProofs only [go_sem] at g17 g18 w21);try simp -implicitDefEqProofs only [go_sem,E115_1,X115_1,k115_1b,a1_h.1,b13,g16,g17,g18,w21.1,w21.2]
   rcases brx h with ⟨b22,h⟩|⟨b22,h⟩
   · cases h;simp -implicitDefEqProofs only [go_sem,E115_1,X115_1,k115_1b,a1_h.1,b13,g16,g17,g18,w21.1,w21.2,b22]
   · cases h;simp -implicitDefEqProofs only [go_sem,E115_1,X115_1,k115_1b,a1_h.1,b13,g16,g17,g18,w21.1,w21.2,b22]
theorem e115_1 (a0:List Int)(p1:Int)(a1:(Int→Option Bool))(a1_f:Nat)(a1_c:List AV)(a1_h:capOk a1_c∧∀y0 r,a1 y0=some r→clR a1_f a1_c [nI y0] (.bool r))(s:Int)(o:(Unit ⊕ Int))(h:loopP (m115_1b a0 p1 a1) s=some o):evCL T 0 (.loop k115_1b) (E115_1 a1_f a1_c a0 p1 a1 s).1 (E115_1 a1_f a1_c a0 p1 a1 s).2=some (X115_1 a1_f a1_c a0 p1 a1 o) :=
 loop_walk (E:=E115_1 a1_f a1_c a0 p1 a1) (X:=X115_1 a1_f a1_c a0 p1 a1) (by intro b;rcases b with b | b<;>(simp only [X115_1];nofun)) (b115_1 a0 p1 a1 a1_f a1_c a1_h) s o h
theorem e115 (a0:List Int)(a1:(Int→Option Bool))(a1_f:Nat)(a1_c:List AV)(a1_h:capOk a1_c∧∀y0 r,a1 y0=some r→clR a1_f a1_c [nI y0] (.bool r))(r:Int)(h:m115 a0 a1=some r):evFL T 115 [.ts .imm 1 (a0.map nInt),.fn a1_f a1_c] []=some (nI r,[]):=by
 unfold m115 at h;rw [evFL_at fn115 (Nat.le_of_ble_eq_true rfl) rfl (.inr rfl) ⟨rfl,rfl⟩];(try simp -implicitDefEqProofs only [go_sem,i115,c115,a1_h.1]);obtain ⟨o,q23,h⟩:=bnd_some h
 rcases o with ⟨⟩|v25
 · replace h:=selS_l h;have w24:=e115_1 a0 (↑a0.length:Int) a1 a1_f a1_c a1_h 0 (.inl ()) q23;simp only [E115_1,X115_1] at w24;(try simp -implicitDefEqProofs only [go_sem] at w24);cases h;simp -implicitDefEqProofs only [go_sem,i115,c115,a1_h.1,w24]
 · replace h:=selS_r h;have w24:=e115_1 a0 (↑a0.length:Int) a1 a1_f a1_c a1_h 0 (.inr v25) q23;simp only [E115_1,X115_1] at w24;(try simp -implicitDefEqProofs only [go_sem] at w24);cases h;simp -implicitDefEqProofs only [go_sem,i115,c115,a1_h.1,w24]
@[go_sem] theorem call109:CL 109 [[1],[0]]:=evCall0 fn109 rfl rfl rfl
theorem e109 (a0:List Int)(a1:(Int→Option Bool))(a1_f:Nat)(a1_c:List AV)(a1_h:capOk a1_c∧∀y0 r,a1 y0=some r→clR a1_f a1_c [nI y0] (.bool r))(r:Bool)(h:m109 a0 a1=some r):evFL T 109 [.ts .imm 1 (a0.map nInt),.fn a1_f a1_c] []=some (.bool r,[]):=by
 unfold m109 at h;rw [evFL_at fn109 (Nat.le_of_ble_eq_true rfl) rfl (.inr rfl) ⟨rfl,rfl⟩];obtain ⟨r3,w2,h⟩:=bcall (e115 a0 a1 a1_f a1_c a1_h) h;(try simp -implicitDefEqProofs only [go_sem] at w2);cases h;simp -implicitDefEqProofs only [go_sem,i109,c109,a1_h.1,w2]
@[go_sem] theorem call66:CL 66 [[0]]:=evCall0 fn66 rfl rfl rfl
theorem e66 (a0:Int)(r:Bool)(h:m66 a0=some r):evFL T 66 [nI a0] []=some (.bool r,[]):=by
 unfold m66 at h;rw [evFL_at fn66 (Nat.le_of_ble_eq_true rfl) rfl (.inr rfl) ⟨rfl,rfl⟩];obtain ⟨r3,w2,h⟩:=bcall (e91 a0 1 65535) h;(try simp -implicitDefEqProofs only [go_sem] at w2);cases h;simp -implicitDefEqProofs only [go_sem,i66,c66,w2]
theorem call110:CL 110 [[0]]:=evCall0 fn110 rfl rfl rfl
theorem callz110:CZ 110 [[0]] [[0]]:=evCallFz0 fn110 rfl rfl rfl
attribute [go_sem] call110 callz110
theorem e110 (a0:Int)(r:Bool)(h:m110 a0=some r):evFL T 110 [nI a0] []=some (.bool r,[]):=by
 unfold m110 at h;rw [evFL_at fn110 (Nat.le_of_ble_eq_true rfl) rfl (.inr rfl) ⟨rfl,rfl⟩];obtain ⟨r3,w2,h⟩:=bcall (e66 a0) h;(try simp -implicitDefEqProofs only [go_sem] at w2);cases h;simp -implicitDefEqProofs only [go_sem,i110,c110,w2]
@[go_sem] theorem call98:CL 98 [[1]]:=evCall0 fn98 rfl rfl rfl
noncomputable def X98_1 (a0:List Int)(o:Bool):Ex×Fr×St :=
 (.normal,frOf 11 (upd anyF 2 (.bool o)),[])
theorem e98_1 (a0:List Int)(o:Bool)(h:m98_1 a0=some o):evCL T 0 k98_1 (frOf 11 (upd anyF 0 (.ts .imm 1 (a0.map nInt)))) []=some (X98_1 a0 o):=by
 unfold m98_1 at h;try simp -implicitDefEqProofs only [go_sem,X98_1,k98_1]
 rcases brx h with ⟨b1,h⟩|⟨b1,h⟩
 · cases h;simp -implicitDefEqProofs only [go_sem,X98_1,k98_1,b1]
 · obtain ⟨r4,w3,h⟩:=bcall (e109 a0 (fun y0=>m110 y0) 110 [] ⟨⟨fun S=>by simp -implicitDefEqProofs only [go_sem],fun _ _ _ _ _ _=>by simp -implicitDefEqProofs only [go_sem]⟩,fun y0 r h=>⟨fun S=>by simp -implicitDefEqProofs only [go_sem,e110 y0 r h],fun S=>by simp -implicitDefEqProofs only [go_sem,e110 y0 r h]⟩⟩) h
   (try simp -implicitDefEqProofs only [go_sem] at w3);cases h;simp -implicitDefEqProofs only [go_sem,X98_1,k98_1,b1,w3]
theorem e98 (a0:List Int)(r:Bool)(h:m98 a0=some r):evFL T 98 [.ts .imm 1 (a0.map nInt)] []=some (.bool r,[]):=by
 unfold m98 at h;rw [evFL_at fn98 (Nat.le_of_ble_eq_true rfl) rfl (.inr rfl) ⟨rfl,rfl⟩];obtain ⟨v7,w6,h⟩:=bcall (e98_1 a0) h;simp only [X98_1] at w6;(try simp -implicitDefEqProofs only [go_sem] at w6);cases h;simp -implicitDefEqProofs only [go_sem,i98,c98,w6]
@[go_sem] theorem call99:CL 99 [[0]]:=evCall0 fn99 rfl rfl rfl
theorem e99 (a0:Int)(r:Bool)(h:m99 a0=some r):evFL T 99 [nI a0] []=some (.bool r,[]):=by
 unfold m99 at h;rw [evFL_at fn99 (Nat.le_of_ble_eq_true rfl) rfl (.inr rfl) ⟨rfl,rfl⟩];obtain ⟨r3,w2,h⟩:=bcall (e91 a0 0 4294967295) h;(try simp -implicitDefEqProofs only [go_sem] at w2);cases h;simp -implicitDefEqProofs only [go_sem,i99,c99,w2]
@[go_sem] theorem call100:CL 100 [[0]]:=evCall0 fn100 rfl rfl rfl
theorem e100 (a0:Int)(r:Bool)(h:m100 a0=some r):evFL T 100 [nI a0] []=some (.bool r,[]):=by
 unfold m100 at h;rw [evFL_at fn100 (Nat.le_of_ble_eq_true rfl) rfl (.inr rfl) ⟨rfl,rfl⟩];obtain ⟨r3,w2,h⟩:=bcall (e91 a0 0 1000000) h;(try simp -implicitDefEqProofs only [go_sem] at w2);cases h;simp -implicitDefEqProofs only [go_sem,i100,c100,w2]
@[go_sem] theorem call101:CL 101 [[1]]:=evCall0 fn101 rfl rfl rfl
noncomputable def X101_3 (a0:List Int)(s22:Int)(x24:Int)(p1:Int)(o:Bool):Ex×Fr×St :=
 (.normal,frOf 32 (upd (upd (upd (upd (upd anyF 0 (.ts .imm 1 (a0.map nInt))) 5 (.ts .imm 1 (a0.map nInt))) 6 (nI p1)) 7 (nI s22)) 27 (.bool o)),[])
theorem e101_3 (a0:List Int)(s22:Int)(x24:Int)(p1:Int)(o:Bool)(h:m101_3 a0 s22 x24=some o):evCL T 0 k101_3 (frOf 32 (upd (upd (upd (upd (upd (upd anyF 0 (.ts .imm 1 (a0.map nInt))) 3 (nI s22)) 4 (nI x24)) 5 (.ts .imm 1 (a0.map nInt))) 6 (nI p1)) 7 (nI s22))) []=some (X101_3 a0 s22 x24 p1 o):=by
 unfold m101_3 at h;obtain ⟨r31,w30,h⟩:=bcall (e100 x24) h;(try simp -implicitDefEqProofs only [go_sem] at w30);try simp -implicitDefEqProofs only [go_sem,X101_3,k101_3,w30]
 rcases brx h with ⟨b32,h⟩|⟨b32,h⟩
 · cases h;simp -implicitDefEqProofs only [go_sem,X101_3,k101_3,w30,b32]
 · try simp -implicitDefEqProofs only [go_sem,X101_3,k101_3,w30,b32]
   rcases brx h with ⟨b33,h⟩|⟨b33,h⟩
   · cases h;simp -implicitDefEqProofs only [go_sem,X101_3,k101_3,w30,b32,b33]
   · obtain ⟨x34,g36,g37,g38,h⟩:=bidx nInt h;(try simp -implicitDefEqProofs only [go_sem] at g37 g38);cases h;simp -implicitDefEqProofs only [go_sem,X101_3,k101_3,w30,b32,b33,g36,g37,g38]
noncomputable def X101_1 (a0:List Int)(p1:Int)(o:(Unit ⊕ Unit)):Ex×Fr×St :=
 match o with
 | .inl o=>(.exit 0,frOf 32 (upd anyF 0 (.ts .imm 1 (a0.map nInt))),[])
 | .inr o=>(.ret,frOf 32 (upd anyF 2 (.bool false)),[])
noncomputable def E101_1 (a0:List Int)(p1:Int)(s:Int):Fr×St:=(frOf 32 (upd (upd (upd (upd anyF 0 (.ts .imm 1 (a0.map nInt))) 5 (.ts .imm 1 (a0.map nInt))) 6 (nI p1)) 7 (nI s)),[])
theorem b101_1 (a0:List Int)(p1:Int)(s:Int)(o:Ctl Int (Unit ⊕ Unit))(h:m101_1b a0 p1 s=some o):evCL T 0 k101_1b (E101_1 a0 p1 s).1 (E101_1 a0 p1 s).2=some (ctlX (E101_1 a0 p1) (X101_1 a0 p1) o):=by
 unfold m101_1b at h
 revert h
 generalize s=s22;intro h;try simp -implicitDefEqProofs only [go_sem,E101_1,X101_1,k101_1b]
 rcases brx h with ⟨b23,h⟩|⟨b23,h⟩
 · cases h;simp -implicitDefEqProofs only [go_sem,E101_1,X101_1,k101_1b,b23]
 · obtain ⟨x24,g26,g27,g28,h⟩:=bidx nInt h;obtain ⟨v41,w40,h⟩:=bcall (e101_3 a0 s22 x24 p1) h;(try simp -implicitDefEqProofs only [go_sem] at g27 g28);simp only [X101_3] at w40;(try simp -implicitDefEqProofs only [go_sem] at w40);try simp -implicitDefEqProofs only [go_sem,E101_1,X101_1,k101_1b,b23,g26,g27,g28,w40]
   rcases brx h with ⟨b42,h⟩|⟨b42,h⟩
   · cases h;simp -implicitDefEqProofs only [go_sem,E101_1,X101_1,k101_1b,b23,g26,g27,g28,w40,b42]
   · cases h;simp -implicitDefEqProofs only [go_sem,E101_1,X101_1,k101_1b,b23,g26,g27,g28,w40,b42]
theorem e101_1 (a0:List Int)(p1:Int)(s:Int)(o:(Unit ⊕ Unit))(h:loopP (m101_1b a0 p1) s=some o):evCL T 0 (.loop k101_1b) (E101_1 a0 p1 s).1 (E101_1 a0 p1 s).2=some (X101_1 a0 p1 o) :=
 loop_walk (E:=E101_1 a0 p1) (X:=X101_1 a0 p1) (by intro b;rcases b with b | b<;>(simp only [X101_1];nofun)) (b101_1 a0 p1) s o h
theorem e101 (a0:List Int)(r:Bool)(h:m101 a0=some r):evFL T 101 [.ts .imm 1 (a0.map nInt)] []=some (.bool r,[]):=by
 unfold m101 at h;rw [evFL_at fn101 (Nat.le_of_ble_eq_true rfl) rfl (.inr rfl) ⟨rfl,rfl⟩];(try simp -implicitDefEqProofs only [go_sem,i101,c101]);obtain ⟨o,q43,h⟩:=bnd_some h
 rcases o with ⟨⟩|⟨⟩
 · replace h:=selS_l h;have w44:=e101_1 a0 (↑a0.length:Int) 0 (.inl ()) q43;simp only [E101_1,X101_1] at w44;(try simp -implicitDefEqProofs only [go_sem] at w44);cases h;simp -implicitDefEqProofs only [go_sem,i101,c101,w44]
 · replace h:=selS_r h;have w44:=e101_1 a0 (↑a0.length:Int) 0 (.inr ()) q43;simp only [E101_1,X101_1] at w44;(try simp -implicitDefEqProofs only [go_sem] at w44);cases h;simp -implicitDefEqProofs only [go_sem,i101,c101,w44]
@[go_sem] theorem call77:CL 77 [[0,1,0,0,0,1]]:=evCall0 fn77 rfl rfl rfl
noncomputable def X77_1 (a0:Attrs)(o:Bool):Ex×Fr×St :=
 (.normal,frOf 31 (upd anyF 2 (.bool o)),[])
theorem e77_1 (a0:Attrs)(o:Bool)(h:m77_1 a0=some o):evCL T 0 k77_1 (frOf 31 (upd anyF 1 (.ptr 0 0 0))) [some ⟨.box,6,[(nAtt .imm a0)]⟩]=some (X77_1 a0 o):=by
 unfold m77_1 at h;obtain ⟨r3,w2,h⟩:=bcall (e91 a0.origin 0 2) h;(try simp -implicitDefEqProofs only [go_sem] at w2);try simp -implicitDefEqProofs only [go_sem,X77_1,k77_1,w2]
 rcases brx h with ⟨b4,h⟩|⟨b4,h⟩
 · cases h;simp -implicitDefEqProofs only [go_sem,X77_1,k77_1,w2,b4]
 · obtain ⟨r7,w6,h⟩:=bcall (e98 a0.path) h;(try simp -implicitDefEqProofs only [go_sem] at w6);try simp -implicitDefEqProofs only [go_sem,X77_1,k77_1,w2,b4,w6]
   rcases brx h with ⟨b8,h⟩|⟨b8,h⟩
   · cases h;simp -implicitDefEqProofs only [go_sem,X77_1,k77_1,w2,b4,w6,b8]
   · obtain ⟨r11,w10,h⟩:=bcall (e99 a0.next) h;(try simp -implicitDefEqProofs only [go_sem] at w10);try simp -implicitDefEqProofs only [go_sem,X77_1,k77_1,w2,b4,w6,b8,w10]
     rcases brx h with ⟨b12,h⟩|⟨b12,h⟩
     · cases h;simp -implicitDefEqProofs only [go_sem,X77_1,k77_1,w2,b4,w6,b8,w10,b12]
     · obtain ⟨r15,w14,h⟩:=bcall (e100 a0.med) h;(try simp -implicitDefEqProofs only [go_sem] at w14);try simp -implicitDefEqProofs only [go_sem,X77_1,k77_1,w2,b4,w6,b8,w10,b12,w14]
       rcases brx h with ⟨b16,h⟩|⟨b16,h⟩
       · cases h;simp -implicitDefEqProofs only [go_sem,X77_1,k77_1,w2,b4,w6,b8,w10,b12,w14,b16]
       · obtain ⟨r19,w18,h⟩:=bcall (e100 a0.pref) h;(try simp -implicitDefEqProofs only [go_sem] at w18);try simp -implicitDefEqProofs only [go_sem,X77_1,k77_1,w2,b4,w6,b8,w10,b12,w14,b16,w18]
         rcases brx h with ⟨b20,h⟩|⟨b20,h⟩
         · cases h;simp -implicitDefEqProofs only [go_sem,X77_1,k77_1,w2,b4,w6,b8,w10,b12,w14,b16,w18,b20]
         · obtain ⟨r23,w22,h⟩:=bcall (e101 a0.comms) h;(try simp -implicitDefEqProofs only [go_sem] at w22);cases h;simp -implicitDefEqProofs only [go_sem,X77_1,k77_1,w2,b4,w6,b8,w10,b12,w14,b16,w18,b20,w22]
theorem e77 (a0:Attrs)(r:Bool)(h:m77 a0=some r):evFL T 77 [.agg (nAtt .imm a0)] []=some (.bool r,[]):=by
 unfold m77 at h;rw [evFL_at fn77 (Nat.le_of_ble_eq_true rfl) rfl (.inr rfl) ⟨rfl,rfl⟩];obtain ⟨v26,w25,h⟩:=bcall (e77_1 a0) h;simp only [X77_1] at w25;(try simp -implicitDefEqProofs only [go_sem] at w25);cases h;simp -implicitDefEqProofs only [go_sem,i77,c77,w25]
theorem call50:CL 50 [[0,0,1,0,0,0,1]]:=evCall0 fn50 rfl rfl rfl
theorem callz50:CZ 50 [[0]] [[0,0,1,0,0,0,1]]:=evCallFz0 fn50 rfl rfl rfl
attribute [go_sem] call50 callz50
noncomputable def X50_1 (a0:Offer)(o:Bool):Ex×Fr×St :=
 (.normal,frOf 11 (upd anyF 2 (.bool o)),[])
theorem e50_1 (a0:Offer)(o:Bool)(h:m50_1 a0=some o):evCL T 0 k50_1 (frOf 11 (upd anyF 1 (.ptr 0 0 0))) [some ⟨.box,7,[(nOff .imm a0)]⟩]=some (X50_1 a0 o):=by
 unfold m50_1 at h;obtain ⟨r3,w2,h⟩:=bcall (e76 a0.peer) h;(try simp -implicitDefEqProofs only [go_sem] at w2);try simp -implicitDefEqProofs only [go_sem,X50_1,k50_1,w2]
 rcases brx h with ⟨b4,h⟩|⟨b4,h⟩
 · cases h;simp -implicitDefEqProofs only [go_sem,X50_1,k50_1,w2,b4]
 · obtain ⟨r7,w6,h⟩:=bcall (e77 a0.attrs) h;(try simp -implicitDefEqProofs only [go_sem] at w6);cases h;simp -implicitDefEqProofs only [go_sem,X50_1,k50_1,w2,b4,w6]
theorem e50 (a0:Offer)(r:Bool)(h:m50 a0=some r):evFL T 50 [.agg (nOff .imm a0)] []=some (.bool r,[]):=by
 unfold m50 at h;rw [evFL_at fn50 (Nat.le_of_ble_eq_true rfl) rfl (.inr rfl) ⟨rfl,rfl⟩];obtain ⟨v10,w9,h⟩:=bcall (e50_1 a0) h;simp only [X50_1] at w9;(try simp -implicitDefEqProofs only [go_sem] at w9);cases h;simp -implicitDefEqProofs only [go_sem,i50,c50,w9]
@[go_sem] theorem call15:CL 15 [[7]]:=evCall0 fn15 rfl rfl rfl
noncomputable def X15_3 (a0:List Offer)(s22:Int)(p1:Int)(x24:Offer)(o:Bool):Ex×Fr×St :=
 (.normal,frOf 31 (upd (upd (upd (upd (upd anyF 0 (.ts .imm 7 (a0.map (nOff .imm)))) 5 (.ts .imm 7 (a0.map (nOff .imm)))) 6 (nI p1)) 7 (nI s22)) 29 (.bool o)),[])
theorem e15_3 (a0:List Offer)(s22:Int)(p1:Int)(x24:Offer)(o:Bool)(h:m15_3 a0 s22 x24=some o):evCL T 0 k15_3 (frOf 31 (upd (upd (upd (upd (upd (upd anyF 0 (.ts .imm 7 (a0.map (nOff .imm)))) 3 (nI s22)) 4 (.ptr 0 0 0)) 5 (.ts .imm 7 (a0.map (nOff .imm)))) 6 (nI p1)) 7 (nI s22))) [some ⟨.box,7,[(nOff .imm x24)]⟩]=some (X15_3 a0 s22 p1 x24 o):=by
 unfold m15_3 at h;obtain ⟨r31,w30,h⟩:=bcall (e50 x24) h;(try simp -implicitDefEqProofs only [go_sem] at w30);try simp -implicitDefEqProofs only [go_sem,X15_3,k15_3,w30]
 rcases brx h with ⟨b32,h⟩|⟨b32,h⟩
 · cases h;simp -implicitDefEqProofs only [go_sem,X15_3,k15_3,w30,b32]
 · try simp -implicitDefEqProofs only [go_sem,X15_3,k15_3,w30,b32]
   rcases brx h with ⟨b33,h⟩|⟨b33,h⟩
   · cases h;simp -implicitDefEqProofs only [go_sem,X15_3,k15_3,w30,b32,b33]
   · obtain ⟨x34,g36,g37,g38,h⟩:=bidx (nOff .imm) h;(try simp -implicitDefEqProofs only [go_sem] at g37 g38);cases h;simp -implicitDefEqProofs only [go_sem,X15_3,k15_3,w30,b32,b33,g36,g37,g38]
noncomputable def X15_1 (a0:List Offer)(p1:Int)(o:(Unit ⊕ Unit)):Ex×Fr×St :=
 match o with
 | .inl o=>(.exit 0,frOf 31 (anyF),[])
 | .inr o=>(.ret,frOf 31 (upd anyF 2 (.bool false)),[])
noncomputable def E15_1 (a0:List Offer)(p1:Int)(s:Int):Fr×St:=(frOf 31 (upd (upd (upd (upd anyF 0 (.ts .imm 7 (a0.map (nOff .imm)))) 5 (.ts .imm 7 (a0.map (nOff .imm)))) 6 (nI p1)) 7 (nI s)),[])
theorem b15_1 (a0:List Offer)(p1:Int)(s:Int)(o:Ctl Int (Unit ⊕ Unit))(h:m15_1b a0 p1 s=some o):evCL T 0 k15_1b (E15_1 a0 p1 s).1 (E15_1 a0 p1 s).2=some (ctlX (E15_1 a0 p1) (X15_1 a0 p1) o):=by
 unfold m15_1b at h
 revert h
 generalize s=s22;intro h;try simp -implicitDefEqProofs only [go_sem,E15_1,X15_1,k15_1b]
 rcases brx h with ⟨b23,h⟩|⟨b23,h⟩
 · cases h;simp -implicitDefEqProofs only [go_sem,E15_1,X15_1,k15_1b,b23]
 · obtain ⟨x24,g26,g27,g28,h⟩:=bidx (nOff .imm) h;obtain ⟨v41,w40,h⟩:=bcall (e15_3 a0 s22 p1 x24) h;(try simp -implicitDefEqProofs only [go_sem] at g27 g28);simp only [X15_3] at w40;(try simp -implicitDefEqProofs only [go_sem] at w40);try simp -implicitDefEqProofs only [go_sem,E15_1,X15_1,k15_1b,b23,g26,g27,g28,w40]
   rcases brx h with ⟨b42,h⟩|⟨b42,h⟩
   · cases h;simp -implicitDefEqProofs only [go_sem,E15_1,X15_1,k15_1b,b23,g26,g27,g28,w40,b42]
   · cases h;simp -implicitDefEqProofs only [go_sem,E15_1,X15_1,k15_1b,b23,g26,g27,g28,w40,b42]
theorem e15_1 (a0:List Offer)(p1:Int)(s:Int)(o:(Unit ⊕ Unit))(h:loopP (m15_1b a0 p1) s=some o):evCL T 0 (.loop k15_1b) (E15_1 a0 p1 s).1 (E15_1 a0 p1 s).2=some (X15_1 a0 p1 o) :=
 loop_walk (E:=E15_1 a0 p1) (X:=X15_1 a0 p1) (by intro b;rcases b with b | b<;>(simp only [X15_1];nofun)) (b15_1 a0 p1) s o h
theorem e15 (a0:List Offer)(r:Bool)(h:m15 a0=some r):evFL T 15 [.ts .imm 7 (a0.map (nOff .imm))] []=some (.bool r,[]):=by
 unfold m15 at h;rw [evFL_at fn15 (Nat.le_of_ble_eq_true rfl) rfl (.inr rfl) ⟨rfl,rfl⟩];(try simp -implicitDefEqProofs only [go_sem,i15,c15]);obtain ⟨o,q43,h⟩:=bnd_some h
 rcases o with ⟨⟩|⟨⟩
 · replace h:=selS_l h;have w44:=e15_1 a0 (↑a0.length:Int) 0 (.inl ()) q43;simp only [E15_1,X15_1] at w44;(try simp -implicitDefEqProofs only [go_sem] at w44);cases h;simp -implicitDefEqProofs only [go_sem,i15,c15,w44]
 · replace h:=selS_r h;have w44:=e15_1 a0 (↑a0.length:Int) 0 (.inr ()) q43;simp only [E15_1,X15_1] at w44;(try simp -implicitDefEqProofs only [go_sem] at w44);cases h;simp -implicitDefEqProofs only [go_sem,i15,c15,w44]
theorem call90 (args:List AV)(S:St):evCall T (evFL T) 90 args S=evVals T 25 108 args S:=evCallV fn90 rfl args S
theorem vals90 (x:AV)(S:St):evVals T 25 108 [x] S=if isSl x=true then some (.fn 108 [.ptr S.length 0 0],S++[some ⟨.box,1,[[x]]⟩]) else none:=evVals_at elem25 108 x S
attribute [go_sem] call90 vals90
theorem call106 (args:List AV)(S:St):evCall T (evFL T) 106 args S=evColl T 25 108 args S:=evCallC fn106 rfl args S
theorem coll106 (els:List (List AV))(S:St):evColl T 25 108 [.fn 108 [.tp .imm 1 [[.ts .imm 7 els]] 0 0]] S=if els.length≤68719476736 then some (.sl S.length 0 els.length,S++[some ⟨.arr,7,els.map (fun x=>x.map (setTop .imm))⟩]) else none:=evColl_at elem25 rfl (by decide) 108 7 rfl els S
attribute [go_sem] call106 coll106
theorem call107 (args:List AV)(S:St):evCall T (evFL T) 107 args S=evSort T (evFL T) 25 args S:=evCallS fn107 rfl args S
theorem srt107_54 (id k:Nat)(caps:List AV)(S:St):evSort T (evFL T) 25 [.sl id 0 k,.fn 54 caps] S=srtC (evFL T) 54 true 7 id k S (idsDeep S (.fn 54 caps)) (isRow S id) (mapO (lendPtr S) caps):=evSort_at elem25 fn54 rfl rfl soft0 id k caps S
attribute [go_sem] call107 srt107_54
@[go_sem] theorem call102:CL 102 [[0]]:=evCall0 fn102 rfl rfl rfl
theorem e102 (a0:Int)(r:Bool)(h:m102 a0=some r):evFL T 102 [nI a0] []=some (.bool r,[]):=by
 unfold m102 at h;rw [evFL_at fn102 (Nat.le_of_ble_eq_true rfl) rfl (.inr rfl) ⟨rfl,rfl⟩];cases h;simp -implicitDefEqProofs only [go_sem,i102,c102]
theorem call82:CL 82 [[0],[0]]:=evCall0 fn82 rfl rfl rfl
theorem callz82:CZ 82 [[0]] [[0],[0]]:=evCallFz0 fn82 rfl rfl rfl
attribute [go_sem] call82 callz82
theorem e82 (a0:Int)(a1:Int)(r:Int)(h:m82 a0 a1=some r):evFL T 82 [nI a0,nI a1] []=some (nI r,[]):=by
 unfold m82 at h;rw [evFL_at fn82 (Nat.le_of_ble_eq_true rfl) rfl (.inr rfl) ⟨rfl,rfl⟩];obtain ⟨r3,w2,h⟩:=bcall (e102 a0) h;obtain ⟨r6,w5,h⟩:=bcall (e102 a1) h;(try simp -implicitDefEqProofs only [go_sem] at w2 w5);try simp -implicitDefEqProofs only [go_sem,i82,c82,w2,w5]
 rcases brx h with ⟨b7,h⟩|⟨b7,h⟩
 · try simp -implicitDefEqProofs only [go_sem,i82,c82,w2,w5,b7]
   rcases brx h with ⟨b9,h⟩|⟨b9,h⟩
   · try simp -implicitDefEqProofs only [go_sem,i82,c82,w2,w5,b7,b9]
     rcases brx h with ⟨b10,h⟩|⟨b10,h⟩
     · try simp -implicitDefEqProofs only [go_sem,i82,c82,w2,w5,b7,b9,b10]
       rcases brx h with ⟨b11,h⟩|⟨b11,h⟩
       · cases h;simp -implicitDefEqProofs only [go_sem,i82,c82,w2,w5,b7,b9,b10,b11]
       · cases h;simp -implicitDefEqProofs only [go_sem,i82,c82,w2,w5,b7,b9,b10,b11]
     · cases h;simp -implicitDefEqProofs only [go_sem,i82,c82,w2,w5,b7,b9,b10]
   · cases h;simp -implicitDefEqProofs only [go_sem,i82,c82,w2,w5,b7,b9]
 · try simp -implicitDefEqProofs only [go_sem,i82,c82,w2,w5,b7]
   rcases brx h with ⟨b8,h⟩|⟨b8,h⟩
   · cases h;simp -implicitDefEqProofs only [go_sem,i82,c82,w2,w5,b7,b8]
   · cases h;simp -implicitDefEqProofs only [go_sem,i82,c82,w2,w5,b7,b8]
theorem call81:CL 81 [[1]]:=evCall0 fn81 rfl rfl rfl
theorem callz81:CZ 81 [[0]] [[1]]:=evCallFz0 fn81 rfl rfl rfl
attribute [go_sem] call81 callz81
noncomputable def X81_1 (a0:List Int)(p1:Int)(o:(Unit ⊕ Int)):Ex×Fr×St :=
 match o with
 | .inl o=>(.exit 0,frOf 18 (upd anyF 3 (nI 0)),[])
 | .inr o=>(.ret,frOf 18 (upd anyF 2 (nI o)),[])
noncomputable def E81_1 (a0:List Int)(p1:Int)(s:Int):Fr×St:=(frOf 18 (upd (upd (upd (upd anyF 3 (nI 0)) 6 (.ts .imm 1 (a0.map nInt))) 7 (nI p1)) 8 (nI s)),[])
theorem b81_1 (a0:List Int)(p1:Int)(s:Int)(o:Ctl Int (Unit ⊕ Int))(h:m81_1b a0 p1 s=some o):evCL T 0 k81_1b (E81_1 a0 p1 s).1 (E81_1 a0 p1 s).2=some (ctlX (E81_1 a0 p1) (X81_1 a0 p1) o):=by
 unfold m81_1b at h
 revert h
 generalize s=s9;intro h;try simp -implicitDefEqProofs only [go_sem,E81_1,X81_1,k81_1b]
 rcases brx h with ⟨b10,h⟩|⟨b10,h⟩
 · cases h;simp -implicitDefEqProofs only [go_sem,E81_1,X81_1,k81_1b,b10]
 · obtain ⟨x11,g13,g14,g15,h⟩:=bidx nInt h;(try simp -implicitDefEqProofs only [go_sem] at g14 g15);try simp -implicitDefEqProofs only [go_sem,E81_1,X81_1,k81_1b,b10,g13,g14,g15]
   rcases brx h with ⟨b16,h⟩|⟨b16,h⟩
   · cases h;simp -implicitDefEqProofs only [go_sem,E81_1,X81_1,k81_1b,b10,g13,g14,g15,b16]
   · cases h;simp -implicitDefEqProofs only [go_sem,E81_1,X81_1,k81_1b,b10,g13,g14,g15,b16]
theorem e81_1 (a0:List Int)(p1:Int)(s:Int)(o:(Unit ⊕ Int))(h:loopP (m81_1b a0 p1) s=some o):evCL T 0 (.loop k81_1b) (E81_1 a0 p1 s).1 (E81_1 a0 p1 s).2=some (X81_1 a0 p1 o) :=
 loop_walk (E:=E81_1 a0 p1) (X:=X81_1 a0 p1) (by intro b;rcases b with b | b<;>(simp only [X81_1];nofun)) (b81_1 a0 p1) s o h
theorem e81 (a0:List Int)(r:Int)(h:m81 a0=some r):evFL T 81 [.ts .imm 1 (a0.map nInt)] []=some (nI r,[]):=by
 unfold m81 at h;rw [evFL_at fn81 (Nat.le_of_ble_eq_true rfl) rfl (.inr rfl) ⟨rfl,rfl⟩];(try simp -implicitDefEqProofs only [go_sem,i81,c81]);obtain ⟨o,q17,h⟩:=bnd_some h
 rcases o with ⟨⟩|v19
 · replace h:=selS_l h;have w18:=e81_1 a0 (↑a0.length:Int) 0 (.inl ()) q17;simp only [E81_1,X81_1] at w18;(try simp -implicitDefEqProofs only [go_sem] at w18);cases h;simp -implicitDefEqProofs only [go_sem,i81,c81,w18]
 · replace h:=selS_r h;have w18:=e81_1 a0 (↑a0.length:Int) 0 (.inr v19) q17;simp only [E81_1,X81_1] at w18;(try simp -implicitDefEqProofs only [go_sem] at w18);cases h;simp -implicitDefEqProofs only [go_sem,i81,c81,w18]
theorem call54:CL 54 [[0,0,1,0,0,0,1],[0,0,1,0,0,0,1]]:=evCall0 fn54 rfl rfl rfl
theorem callz54:CZ 54 [[0]] [[0,0,1,0,0,0,1],[0,0,1,0,0,0,1]]:=evCallFz0 fn54 rfl rfl rfl
attribute [go_sem] call54 callz54
theorem e54 (a0:Offer)(a1:Offer)(r:Int)(h:m54 a0 a1=some r):evFL T 54 [.agg [nI a0.peer,nI a0.attrs.origin,.ts .imm 1 (a0.attrs.path.map nInt),nI a0.attrs.next,nI a0.attrs.med,nI a0.attrs.pref,.ts .imm 1 (a0.attrs.comms.map nInt)],.agg [nI a1.peer,nI a1.attrs.origin,.ts .imm 1 (a1.attrs.path.map nInt),nI a1.attrs.next,nI a1.attrs.med,nI a1.attrs.pref,.ts .imm 1 (a1.attrs.comms.map nInt)]] []=some (nI r,[]):=by
 unfold m54 at h;rw [evFL_at fn54 (Nat.le_of_ble_eq_true rfl) rfl (.inr rfl) ⟨rfl,rfl⟩];try simp -implicitDefEqProofs only [go_sem,i54,c54]
 rcases brx h with ⟨b1,h⟩|⟨b1,h⟩
 · obtain ⟨r4,w3,h⟩:=bcall (e82 a1.attrs.pref a0.attrs.pref) h;obtain ⟨r7,w6,h⟩:=bcall (e82 (↑a0.attrs.path.length:Int) (↑a1.attrs.path.length:Int)) h;obtain ⟨r10,w9,h⟩:=bcall (e82 a0.attrs.origin a1.attrs.origin) h;obtain ⟨r13,w12,h⟩:=bcall (e82 a0.attrs.med a1.attrs.med) h;obtain ⟨r16,w15,h⟩:=bcall (e82 a0.attrs.next a1.attrs.next) h;obtain ⟨r19,w18,h⟩:=bcall (e82 a0.peer a1.peer) h;obtain ⟨r22,w21,h⟩:=bcall (e81 [r4,r7,r10,r13,r16,r19]) h;(try simp -implicitDefEqProofs only [go_sem] at w3 w6 w9 w12 w15 w18 w21);cases h;simp -implicitDefEqProofs only [go_sem,i54,c54,b1,w3,w6,w9,w12,w15,w18,w21]
 · cases h;simp -implicitDefEqProofs only [go_sem,i54,c54,b1]
@[go_sem] theorem call89 (args:List AV)(S:St):evCall T (evFL T) 89 args S=treeC false (evFL T 89) S args (lendAll S [[0],[0]] args):=evCallT fn89 rfl rfl rfl args S
theorem e89 (a0:List Offer)(r:List Offer)(h:m89 a0=some r):evFL T 89 [.fn 108 [.tp .imm 1 [[.ts .imm 7 (a0.map (nOff .imm))]] 0 0],.fn 54 []] []=some (.ts .imm 7 (r.map (nOff .imm)),[]):=by
 unfold m89 at h;rw [evFL_at fn89 (Nat.le_of_ble_eq_true rfl) rfl (.inr rfl) ⟨rfl,rfl⟩];obtain ⟨g1,h⟩:=ck_some h;obtain ⟨v2,q3,h⟩:=bnd_some h;try simp -implicitDefEqProofs only [go_sem] at g1
 obtain ⟨g4,g5,g6⟩:=srt_row (nOff .imm) (c':=cmpAt (evFL T) 54 [] true) (fun y0 y1 r h=>by simp -implicitDefEqProofs only [go_sem,cmpAt,argRow,e54 y0 y1 r h]) q3
 (try simp -implicitDefEqProofs only [go_sem] at g4 g6);cases h;simp -implicitDefEqProofs only [go_sem,i89,c89,g1,g4,g5,g6]
@[go_sem] theorem call64:CL 64 [[7]]:=evCall0 fn64 rfl rfl rfl
noncomputable def X64_1 (r3:List Offer)(p4:Int)(o:List Int):Ex×Fr×St :=
 (.exit 0,frOf 22 (upd anyF 3 (.sl 0 0 o.length)),[some ⟨.arr,1,o.map nInt⟩])
noncomputable def E64_1 (r3:List Offer)(p4:Int)(s:(Int×List Int)):Fr×St:=(frOf 22 (upd (upd (upd (upd anyF 3 (.sl 0 0 s.2.length)) 9 (.ts .bor 7 (r3.map (nOff .bor)))) 10 (nI p4)) 11 (nI s.1)),[some ⟨.arr,1,s.2.map nInt⟩])
theorem b64_1 (r3:List Offer)(p4:Int)(s:(Int×List Int))(o:Ctl (Int×List Int) (List Int))(h:m64_1b r3 p4 s=some o):evCL T 0 k64_1b (E64_1 r3 p4 s).1 (E64_1 r3 p4 s).2=some (ctlX (E64_1 r3 p4) (X64_1 r3 p4) o):=by
 unfold m64_1b at h;obtain ⟨s11,s12⟩:=s;replace h:=sel2_some h;try simp -implicitDefEqProofs only [go_sem,E64_1,X64_1,k64_1b]
 rcases brx h with ⟨b13,h⟩|⟨b13,h⟩
 · cases h;simp -implicitDefEqProofs only [go_sem,E64_1,X64_1,k64_1b,b13]
 · obtain ⟨x14,g16,g17,g18,h⟩:=bidx (nOff .bor) h;(try simp -implicitDefEqProofs only [go_sem] at g17 g18);obtain ⟨g19,h⟩:=ck_some h;(try simp -implicitDefEqProofs only [go_sem] at g19);cases h;simp -implicitDefEqProofs only [go_sem,E64_1,X64_1,k64_1b,b13,g16,g17,g18,g19]
theorem e64_1 (r3:List Offer)(p4:Int)(s:(Int×List Int))(o:List Int)(h:loopP (m64_1b r3 p4) s=some o):evCL T 0 (.loop k64_1b) (E64_1 r3 p4 s).1 (E64_1 r3 p4 s).2=some (X64_1 r3 p4 o) :=
 loop_walk (E:=E64_1 r3 p4) (X:=X64_1 r3 p4) (by intro b;(simp only [X64_1];nofun)) (b64_1 r3 p4) s o h
theorem e64 (a0:List Offer)(r:List Int)(h:m64 a0=some r):evFL T 64 [.ts .imm 7 (a0.map (nOff .imm))] []=some (.sl 0 0 r.length,[some ⟨.arr,1,r.map nInt⟩]):=by
 unfold m64 at h;rw [evFL_at fn64 (Nat.le_of_ble_eq_true rfl) rfl (.inr rfl) ⟨rfl,rfl⟩];obtain ⟨r3,w2,h⟩:=bcall (e89 a0) h;obtain ⟨v22,w21,h⟩:=bcall (e64_1 r3 (↑r3.length:Int) (0,[])) h;(try simp -implicitDefEqProofs only [go_sem] at w2);simp only [E64_1,X64_1] at w21;(try simp -implicitDefEqProofs only [go_sem] at w21);cases h;simp -implicitDefEqProofs only [go_sem,i64,c64,w2,w21]
theorem call32:CL 32 [[7]]:=evCall0 fn32 rfl rfl rfl
theorem calls32 (args:List AV)(S:St):evCall (T.at true) (evFL T) 32 args S=lendC (evFL T 32) S (lendAll S [[7]] args):=evCall0 fns32 rfl rfl rfl args S
attribute [go_sem] call32 calls32
theorem e32 (a0:List Offer)(r:((List Int)×Bool))(h:m32 a0=some r):evFL T 32 [.ts .imm 7 (a0.map (nOff .imm))] []=some (.tup [.sl 0 0 r.1.length,.bool r.2],[some ⟨.arr,1,r.1.map nInt⟩]):=by
 unfold m32 at h;rw [evFL_at fn32 (Nat.le_of_ble_eq_true rfl) rfl (.inr rfl) ⟨rfl,rfl⟩];obtain ⟨r3,w2,h⟩:=bcall (e15 a0) h;(try simp -implicitDefEqProofs only [go_sem] at w2);try simp -implicitDefEqProofs only [go_sem,i32,c32,w2]
 rcases brx h with ⟨b4,h⟩|⟨b4,h⟩
 · cases h;simp -implicitDefEqProofs only [go_sem,i32,c32,w2,b4]
 · obtain ⟨r7,w6,h⟩:=bcall (e64 a0) h;(try simp -implicitDefEqProofs only [go_sem] at w6);cases h;simp -implicitDefEqProofs only [go_sem,i32,c32,w2,b4,w6]
theorem call33:CL 33 [[1],[1]]:=evCall0 fn33 rfl rfl rfl
theorem calls33 (args:List AV)(S:St):evCall (T.at true) (evFL T) 33 args S=lendC (evFL T 33) S (lendAll S [[1],[1]] args):=evCall0 fns33 rfl rfl rfl args S
attribute [go_sem] call33 calls33
noncomputable def X33_1 (a0:List Int)(a1:List Int)(o:(Unit ⊕ Unit)):Ex×Fr×St :=
 match o with
 | .inl o=>(.exit 0,frOf 26 (anyF),[])
 | .inr o=>(.ret,frOf 26 (upd anyF 4 (.bool false)),[])
noncomputable def E33_1 (a0:List Int)(a1:List Int)(s:Int):Fr×St:=(frOf 26 (upd (upd (upd anyF 0 (.ts .imm 1 (a0.map nInt))) 1 (.ts .imm 1 (a1.map nInt))) 5 (nI s)),[])
theorem b33_1 (a0:List Int)(a1:List Int)(s:Int)(o:Ctl Int (Unit ⊕ Unit))(h:m33_1b a0 a1 s=some o):evCL T 0 k33_1b (E33_1 a0 a1 s).1 (E33_1 a0 a1 s).2=some (ctlX (E33_1 a0 a1) (X33_1 a0 a1) o):=by
 unfold m33_1b at h
 revert h
 generalize s=s14;intro h;try simp -implicitDefEqProofs only [go_sem,E33_1,X33_1,k33_1b]
 rcases brx h with ⟨b15,h⟩|⟨b15,h⟩
 · cases h;simp -implicitDefEqProofs only [go_sem,E33_1,X33_1,k33_1b,b15]
 · obtain ⟨x16,g18,g19,g20,h⟩:=bidx nInt h;obtain ⟨x21,g23,g24,g25,h⟩:=bidx nInt h;(try simp -implicitDefEqProofs only [go_sem] at g19 g20 g24 g25);try simp -implicitDefEqProofs only [go_sem,E33_1,X33_1,k33_1b,b15,g18,g19,g20,g23,g24,g25]
   rcases brx h with ⟨b26,h⟩|⟨b26,h⟩
   · cases h;simp -implicitDefEqProofs only [go_sem,E33_1,X33_1,k33_1b,b15,g18,g19,g20,g23,g24,g25,b26]
   · cases h;simp -implicitDefEqProofs only [go_sem,E33_1,X33_1,k33_1b,b15,g18,g19,g20,g23,g24,g25,b26]
theorem e33_1 (a0:List Int)(a1:List Int)(s:Int)(o:(Unit ⊕ Unit))(h:loopP (m33_1b a0 a1) s=some o):evCL T 0 (.loop k33_1b) (E33_1 a0 a1 s).1 (E33_1 a0 a1 s).2=some (X33_1 a0 a1 o) :=
 loop_walk (E:=E33_1 a0 a1) (X:=X33_1 a0 a1) (by intro b;rcases b with b | b<;>(simp only [X33_1];nofun)) (b33_1 a0 a1) s o h
theorem e33 (a0:List Int)(a1:List Int)(r:Bool)(h:m33 a0 a1=some r):evFL T 33 [.ts .imm 1 (a0.map nInt),.ts .imm 1 (a1.map nInt)] []=some (.bool r,[]):=by
 unfold m33 at h;rw [evFL_at fn33 (Nat.le_of_ble_eq_true rfl) rfl (.inr rfl) ⟨rfl,rfl⟩];try simp -implicitDefEqProofs only [go_sem,i33,c33]
 rcases brx h with ⟨b1,h⟩|⟨b1,h⟩
 · cases h;simp -implicitDefEqProofs only [go_sem,i33,c33,b1]
 · (try simp -implicitDefEqProofs only [go_sem,i33,c33,b1]);obtain ⟨o,q27,h⟩:=bnd_some h
   rcases o with ⟨⟩|⟨⟩
   · replace h:=selS_l h;have w28:=e33_1 a0 a1 0 (.inl ()) q27;simp only [E33_1,X33_1] at w28;(try simp -implicitDefEqProofs only [go_sem] at w28);cases h;simp -implicitDefEqProofs only [go_sem,i33,c33,b1,w28]
   · replace h:=selS_r h;have w28:=e33_1 a0 a1 0 (.inr ()) q27;simp only [E33_1,X33_1] at w28;(try simp -implicitDefEqProofs only [go_sem] at w28);cases h;simp -implicitDefEqProofs only [go_sem,i33,c33,b1,w28]
@[go_sem] theorem call55:CL 55 [[0,1,0,0,0,1],[0,1,0,0,0,1]]:=evCall0 fn55 rfl rfl rfl
theorem e55 (a0:Attrs)(a1:Attrs)(r:Bool)(h:m55 a0 a1=some r):evFL T 55 [.agg (nAtt .imm a0),.agg (nAtt .imm a1)] []=some (.bool r,[]):=by
 unfold m55 at h;rw [evFL_at fn55 (Nat.le_of_ble_eq_true rfl) rfl (.inr rfl) ⟨rfl,rfl⟩];try simp -implicitDefEqProofs only [go_sem,i55,c55]
 rcases brx h with ⟨b1,h⟩|⟨b1,h⟩
 · cases h;simp -implicitDefEqProofs only [go_sem,i55,c55,b1]
 · obtain ⟨r4,w3,h⟩:=bcall (e33 a0.path a1.path) h;(try simp -implicitDefEqProofs only [go_sem] at w3);try simp -implicitDefEqProofs only [go_sem,i55,c55,b1,w3]
   rcases brx h with ⟨b5,h⟩|⟨b5,h⟩
   · cases h;simp -implicitDefEqProofs only [go_sem,i55,c55,b1,w3,b5]
   · try simp -implicitDefEqProofs only [go_sem,i55,c55,b1,w3,b5]
     rcases brx h with ⟨b6,h⟩|⟨b6,h⟩
     · cases h;simp -implicitDefEqProofs only [go_sem,i55,c55,b1,w3,b5,b6]
     · try simp -implicitDefEqProofs only [go_sem,i55,c55,b1,w3,b5,b6]
       rcases brx h with ⟨b7,h⟩|⟨b7,h⟩
       · cases h;simp -implicitDefEqProofs only [go_sem,i55,c55,b1,w3,b5,b6,b7]
       · try simp -implicitDefEqProofs only [go_sem,i55,c55,b1,w3,b5,b6,b7]
         rcases brx h with ⟨b8,h⟩|⟨b8,h⟩
         · cases h;simp -implicitDefEqProofs only [go_sem,i55,c55,b1,w3,b5,b6,b7,b8]
         · obtain ⟨r11,w10,h⟩:=bcall (e33 a0.comms a1.comms) h;(try simp -implicitDefEqProofs only [go_sem] at w10);try simp -implicitDefEqProofs only [go_sem,i55,c55,b1,w3,b5,b6,b7,b8,w10]
           rcases brx h with ⟨b12,h⟩|⟨b12,h⟩
           · cases h;simp -implicitDefEqProofs only [go_sem,i55,c55,b1,w3,b5,b6,b7,b8,w10,b12]
           · cases h;simp -implicitDefEqProofs only [go_sem,i55,c55,b1,w3,b5,b6,b7,b8,w10,b12]
theorem call21:CL 21 [[0,0,1,0,0,0,1],[0,0,1,0,0,0,1]]:=evCall0 fn21 rfl rfl rfl
theorem callz21:CZ 21 [[0]] [[0,0,1,0,0,0,1],[0,0,1,0,0,0,1]]:=evCallFz0 fn21 rfl rfl rfl
attribute [go_sem] call21 callz21
theorem e21 (a0:Offer)(a1:Offer)(r:Bool)(h:m21 a0 a1=some r):evFL T 21 [.agg (nOff .imm a0),.agg (nOff .imm a1)] []=some (.bool r,[]):=by
 unfold m21 at h;rw [evFL_at fn21 (Nat.le_of_ble_eq_true rfl) rfl (.inr rfl) ⟨rfl,rfl⟩];try simp -implicitDefEqProofs only [go_sem,i21,c21]
 rcases brx h with ⟨b1,h⟩|⟨b1,h⟩
 · cases h;simp -implicitDefEqProofs only [go_sem,i21,c21,b1]
 · obtain ⟨r4,w3,h⟩:=bcall (e55 a0.attrs a1.attrs) h;(try simp -implicitDefEqProofs only [go_sem] at w3);try simp -implicitDefEqProofs only [go_sem,i21,c21,b1,w3]
   rcases brx h with ⟨b5,h⟩|⟨b5,h⟩
   · cases h;simp -implicitDefEqProofs only [go_sem,i21,c21,b1,w3,b5]
   · cases h;simp -implicitDefEqProofs only [go_sem,i21,c21,b1,w3,b5]
theorem call16:CL 16 [[7],[7]]:=evCall0 fn16 rfl rfl rfl
theorem calls16 (args:List AV)(S:St):evCall (T.at true) (evFL T) 16 args S=lendC (evFL T 16) S (lendAll S [[7],[7]] args):=evCall0 fns16 rfl rfl rfl args S
attribute [go_sem] call16 calls16
noncomputable def X16_1 (a0:List Offer)(a1:List Offer)(o:(Unit ⊕ Unit)):Ex×Fr×St :=
 match o with
 | .inl o=>(.exit 0,frOf 27 (anyF),[])
 | .inr o=>(.ret,frOf 27 (upd anyF 4 (.bool false)),[])
noncomputable def E16_1 (a0:List Offer)(a1:List Offer)(s:Int):Fr×St:=(frOf 27 (upd (upd (upd anyF 0 (.ts .imm 7 (a0.map (nOff .imm)))) 1 (.ts .imm 7 (a1.map (nOff .imm)))) 5 (nI s)),[])
theorem b16_1 (a0:List Offer)(a1:List Offer)(s:Int)(o:Ctl Int (Unit ⊕ Unit))(h:m16_1b a0 a1 s=some o):evCL T 0 k16_1b (E16_1 a0 a1 s).1 (E16_1 a0 a1 s).2=some (ctlX (E16_1 a0 a1) (X16_1 a0 a1) o):=by
 unfold m16_1b at h
 revert h
 generalize s=s17;intro h;try simp -implicitDefEqProofs only [go_sem,E16_1,X16_1,k16_1b]
 rcases brx h with ⟨b18,h⟩|⟨b18,h⟩
 · cases h;simp -implicitDefEqProofs only [go_sem,E16_1,X16_1,k16_1b,b18]
 · obtain ⟨x19,g21,g22,g23,h⟩:=bidx (nOff .imm) h;obtain ⟨x24,g26,g27,g28,h⟩:=bidx (nOff .imm) h;obtain ⟨r31,w30,h⟩:=bcall (e21 x19 x24) h;(try simp -implicitDefEqProofs only [go_sem] at g22 g23 g27 g28 w30);try simp -implicitDefEqProofs only [go_sem,E16_1,X16_1,k16_1b,b18,g21,g22,g23,g26,g27,g28,w30]
   rcases brx h with ⟨b32,h⟩|⟨b32,h⟩
   · cases h;simp -implicitDefEqProofs only [go_sem,E16_1,X16_1,k16_1b,b18,g21,g22,g23,g26,g27,g28,w30,b32]
   · cases h;simp -implicitDefEqProofs only [go_sem,E16_1,X16_1,k16_1b,b18,g21,g22,g23,g26,g27,g28,w30,b32]
theorem e16_1 (a0:List Offer)(a1:List Offer)(s:Int)(o:(Unit ⊕ Unit))(h:loopP (m16_1b a0 a1) s=some o):evCL T 0 (.loop k16_1b) (E16_1 a0 a1 s).1 (E16_1 a0 a1 s).2=some (X16_1 a0 a1 o) :=
 loop_walk (E:=E16_1 a0 a1) (X:=X16_1 a0 a1) (by intro b;rcases b with b | b<;>(simp only [X16_1];nofun)) (b16_1 a0 a1) s o h
theorem e16 (a0:List Offer)(a1:List Offer)(r:Bool)(h:m16 a0 a1=some r):evFL T 16 [.ts .imm 7 (a0.map (nOff .imm)),.ts .imm 7 (a1.map (nOff .imm))] []=some (.bool r,[]):=by
 unfold m16 at h;rw [evFL_at fn16 (Nat.le_of_ble_eq_true rfl) rfl (.inr rfl) ⟨rfl,rfl⟩];try simp -implicitDefEqProofs only [go_sem,i16,c16]
 rcases brx h with ⟨b1,h⟩|⟨b1,h⟩
 · cases h;simp -implicitDefEqProofs only [go_sem,i16,c16,b1]
 · (try simp -implicitDefEqProofs only [go_sem,i16,c16,b1]);obtain ⟨o,q33,h⟩:=bnd_some h
   rcases o with ⟨⟩|⟨⟩
   · replace h:=selS_l h;have w34:=e16_1 a0 a1 0 (.inl ()) q33;simp only [E16_1,X16_1] at w34;(try simp -implicitDefEqProofs only [go_sem] at w34);cases h;simp -implicitDefEqProofs only [go_sem,i16,c16,b1,w34]
   · replace h:=selS_r h;have w34:=e16_1 a0 a1 0 (.inr ()) q33;simp only [E16_1,X16_1] at w34;(try simp -implicitDefEqProofs only [go_sem] at w34);cases h;simp -implicitDefEqProofs only [go_sem,i16,c16,b1,w34]
theorem call34 (args:List AV)(S:St):evCall T (evFL T) 34 args S=c3A true true (evFL T 34) (rawAll S [[1],[0]] args):=evCall3_g fn34 rfl (fun h=>absurd h.1 (by decide)) args S
theorem calls34 (args:List AV)(S:St):evCall (T.at true) (evFL T) 34 args S=c3A false true (evFL T 34) (rawAll S [[1],[0]] args):=evCall3_g fns34 rfl (fun h=>absurd h.1 (by decide)) args S
attribute [go_sem] call34 calls34
noncomputable def X34_1 (o:(Int×List Int)):Ex×Fr×St :=
 (.exit 0,frOf 19 (upd anyF 1 (nI o.1)),[some ⟨.arr,1,o.2.map nInt⟩])
noncomputable def E34_1 (s:(Int×Int×List Int)):Fr×St:=(frOf 19 (upd (upd (upd anyF 0 (.sl 0 0 s.2.2.length)) 1 (nI s.1)) 5 (nI s.2.1)),[some ⟨.arr,1,s.2.2.map nInt⟩])
theorem b34_1 (s:(Int×Int×List Int))(o:Ctl (Int×Int×List Int) (Int×List Int))(h:m34_1b s=some o):evCL T 1 k34_1b (E34_1 s).1 (E34_1 s).2=some (ctlX (E34_1) (X34_1) o):=by
 unfold m34_1b at h;obtain ⟨s7,s8,s9⟩:=s;replace h:=sel3_some h;try simp -implicitDefEqProofs only [go_sem,E34_1,X34_1,k34_1b]
 rcases brx h with ⟨b10,h⟩|⟨b10,h⟩
 · cases h;simp -implicitDefEqProofs only [go_sem,E34_1,X34_1,k34_1b,b10]
 · obtain ⟨x11,g13,g14,g15,h⟩:=bidx nInt h;(try simp -implicitDefEqProofs only [go_sem] at g14 g15);cases h;simp -implicitDefEqProofs only [go_sem,E34_1,X34_1,k34_1b,b10,g13,g14,g15]
theorem e34_1 (s:(Int×Int×List Int))(o:(Int×List Int))(h:loopP (m34_1b) s=some o):evCL T 1 (.loop k34_1b) (E34_1 s).1 (E34_1 s).2=some (X34_1 o) :=
 loop_walk (E:=E34_1) (X:=X34_1) (by intro b;(simp only [X34_1];nofun)) (b34_1) s o h
theorem e34 (a0:List Int)(a1:Int)(r:(Int×List Int))(h:m34 a0 a1=some r):evFL T 34 [.sl 0 0 a0.length,nI a1] [some ⟨.arr,1,a0.map nInt⟩]=some (nI r.1,[some ⟨.arr,1,r.2.map nInt⟩]):=by
 unfold m34 at h;rw [evFL_at fn34 (Nat.le_of_ble_eq_true rfl) rfl (.inl rfl) ⟨rfl,rfl⟩];obtain ⟨⟨v18,v19⟩,w17,h⟩:=bcall (e34_1 (a1,0,a0)) h;replace h:=sel2_some h;simp only [E34_1,X34_1] at w17;(try simp -implicitDefEqProofs only [go_sem] at w17);cases h;simp -implicitDefEqProofs only [go_sem,i34,c34,w17]
@[go_sem] theorem calls24 (args:List AV)(S:St):evCall (T.at true) (evFL T) 24 args S=c3A true true (evFL T 24) (rawAll S [[7],[0]] args):=evCall3_g fns24 rfl (fun h=>absurd h.2 (by decide)) args S
noncomputable def X24_1 (o:(Int×List Offer)):Ex×Fr×St :=
 (.exit 0,frOf 68 (upd anyF 1 (nI o.1)),[some ⟨.arr,7,o.2.map (nOff .own)⟩])
noncomputable def E24_1 (s:(Int×Int×List Offer)):Fr×St:=(frOf 68 (upd (upd (upd anyF 0 (.sl 0 0 s.2.2.length)) 1 (nI s.1)) 5 (nI s.2.1)),[some ⟨.arr,7,s.2.2.map (nOff .own)⟩])
theorem b24_1 (s:(Int×Int×List Offer))(o:Ctl (Int×Int×List Offer) (Int×List Offer))(h:m24_1b s=some o):evCL (T.at true) 1 k24_1b (E24_1 s).1 (E24_1 s).2=some (ctlX (E24_1) (X24_1) o):=by
 unfold m24_1b at h;obtain ⟨s17,s18,s19⟩:=s;replace h:=sel3_some h;try simp -implicitDefEqProofs only [go_sem,E24_1,X24_1,k24_1b]
 rcases brx h with ⟨b20,h⟩|⟨b20,h⟩
 · cases h;simp -implicitDefEqProofs only [go_sem,E24_1,X24_1,k24_1b,b20]
 · obtain ⟨x21,g23,g24,g25,h⟩:=bidx (nOff .own) h;obtain ⟨⟨r28,r29⟩,w27,h⟩:=bcall (e34 x21.attrs.path (wadd .i64 (wadd .i64 s17 1) 1)) h;replace h:=sel2_some h;(try simp -implicitDefEqProofs only [go_sem] at g24 g25 w27);obtain ⟨g30,h⟩:=ck_some h;obtain ⟨⟨r33,r34⟩,w32,h⟩:=bcall (e34 x21.attrs.comms (wadd .i64 (wadd .i64 (wadd .i64 r28 1) 1) 1)) h;replace h:=sel2_some h;(try simp -implicitDefEqProofs only [go_sem] at g30);(try simp -implicitDefEqProofs only [go_sem,g30] at w32);obtain ⟨g35,h⟩:=ck_some h;(try simp -implicitDefEqProofs only [go_sem] at g35);cases h;simp -implicitDefEqProofs only [go_sem,E24_1,X24_1,k24_1b,b20,g23,g24,g25,w27,g30,take_of_len_map g30,w32,g35,take_of_len_map g35]
theorem e24_1 (s:(Int×Int×List Offer))(o:(Int×List Offer))(h:loopP (m24_1b) s=some o):evCL (T.at true) 1 (.loop k24_1b) (E24_1 s).1 (E24_1 s).2=some (X24_1 o) :=
 loop_walk (E:=E24_1) (X:=X24_1) (by intro b;(simp only [X24_1];nofun)) (b24_1) s o h
theorem e24 (a0:List Offer)(a1:Int)(r:(Int×List Offer))(h:m24 a0 a1=some r):evFL T 24 [.sl 0 0 a0.length,nI a1] [some ⟨.arr,7,a0.map (nOff .own)⟩]=some (nI r.1,[some ⟨.arr,7,r.2.map (nOff .own)⟩]):=by
 unfold m24 at h;rw [evFL_atS fn24 (Nat.le_of_ble_eq_true rfl) rfl (.inl rfl) ⟨rfl,rfl⟩];obtain ⟨⟨v38,v39⟩,w37,h⟩:=bcall (e24_1 (a1,0,a0)) h;replace h:=sel2_some h;simp only [E24_1,X24_1] at w37;(try simp -implicitDefEqProofs only [go_sem] at w37);cases h;simp -implicitDefEqProofs only [go_sem,i24,c24,w37]
theorem call35:CL 35 [[1],[0]]:=evCall0 fn35 rfl rfl rfl
theorem calls35 (args:List AV)(S:St):evCall (T.at true) (evFL T) 35 args S=lendC (evFL T 35) S (lendAll S [[1],[0]] args):=evCall0 fns35 rfl rfl rfl args S
attribute [go_sem] call35 calls35
noncomputable def X35_1 (a0:List Int)(o:(Int ⊕ Unit)):Ex×Fr×St :=
 match o with
 | .inl o=>(.exit 0,frOf 21 (upd anyF 1 (nI o)),[])
 | .inr o=>(.ret,frOf 21 (upd anyF 4 (nI (-1))),[])
noncomputable def E35_1 (a0:List Int)(s:(Int×Int)):Fr×St:=(frOf 21 (upd (upd (upd anyF 0 (.ts .imm 1 (a0.map nInt))) 1 (nI s.1)) 5 (nI s.2)),[])
theorem b35_1 (a0:List Int)(s:(Int×Int))(o:Ctl (Int×Int) (Int ⊕ Unit))(h:m35_1b a0 s=some o):evCL T 0 k35_1b (E35_1 a0 s).1 (E35_1 a0 s).2=some (ctlX (E35_1 a0) (X35_1 a0) o):=by
 unfold m35_1b at h;obtain ⟨s8,s9⟩:=s;replace h:=sel2_some h;try simp -implicitDefEqProofs only [go_sem,E35_1,X35_1,k35_1b]
 rcases brx h with ⟨b10,h⟩|⟨b10,h⟩
 · cases h;simp -implicitDefEqProofs only [go_sem,E35_1,X35_1,k35_1b,b10]
 · obtain ⟨x11,g13,g14,g15,h⟩:=bidx nInt h;(try simp -implicitDefEqProofs only [go_sem] at g14 g15);try simp -implicitDefEqProofs only [go_sem,E35_1,X35_1,k35_1b,b10,g13,g14,g15]
   rcases brx h with ⟨b16,h⟩|⟨b16,h⟩
   · cases h;simp -implicitDefEqProofs only [go_sem,E35_1,X35_1,k35_1b,b10,g13,g14,g15,b16]
   · cases h;simp -implicitDefEqProofs only [go_sem,E35_1,X35_1,k35_1b,b10,g13,g14,g15,b16]
theorem e35_1 (a0:List Int)(s:(Int×Int))(o:(Int ⊕ Unit))(h:loopP (m35_1b a0) s=some o):evCL T 0 (.loop k35_1b) (E35_1 a0 s).1 (E35_1 a0 s).2=some (X35_1 a0 o) :=
 loop_walk (E:=E35_1 a0) (X:=X35_1 a0) (by intro b;rcases b with b | b<;>(simp only [X35_1];nofun)) (b35_1 a0) s o h
theorem e35 (a0:List Int)(a1:Int)(r:Int)(h:m35 a0 a1=some r):evFL T 35 [.ts .imm 1 (a0.map nInt),nI a1] []=some (nI r,[]):=by
 unfold m35 at h;rw [evFL_at fn35 (Nat.le_of_ble_eq_true rfl) rfl (.inr rfl) ⟨rfl,rfl⟩];(try simp -implicitDefEqProofs only [go_sem,i35,c35]);obtain ⟨o,q17,h⟩:=bnd_some h
 rcases o with v19|⟨⟩
 · replace h:=selS_l h;have w18:=e35_1 a0 (a1,0) (.inl v19) q17;simp only [E35_1,X35_1] at w18;(try simp -implicitDefEqProofs only [go_sem] at w18);cases h;simp -implicitDefEqProofs only [go_sem,i35,c35,w18]
 · replace h:=selS_r h;have w18:=e35_1 a0 (a1,0) (.inr ()) q17;simp only [E35_1,X35_1] at w18;(try simp -implicitDefEqProofs only [go_sem] at w18);cases h;simp -implicitDefEqProofs only [go_sem,i35,c35,w18]
noncomputable def X8_1 (a0:List Offer)(r11:Bool)(r17:Bool)(r10:List Int)(r7:List Offer)(r16:List Int)(o:Bool):Ex×Fr×St :=
 (.normal,frOf 96 (upd (upd (upd (upd (upd (upd (upd anyF 0 (.ts .imm 7 (a0.map (nOff .imm)))) 4 (.sl 0 0 r10.length)) 5 (.bool r11)) 6 (.sl 1 0 r7.length)) 7 (.sl 2 0 r16.length)) 8 (.bool r17)) 40 (.bool o)),[some ⟨.arr,1,r10.map nInt⟩,some ⟨.arr,7,r7.map (nOff .own)⟩,some ⟨.arr,1,r16.map nInt⟩])
theorem e8_1 (a0:List Offer)(r11:Bool)(r17:Bool)(r10:List Int)(r7:List Offer)(r16:List Int)(o:Bool)(h:m8_1 r11 r17 r10 r16=some o):evCL (T.at true) 0 k8_1 (frOf 96 (upd (upd (upd (upd (upd (upd anyF 0 (.ts .imm 7 (a0.map (nOff .imm)))) 4 (.sl 0 0 r10.length)) 5 (.bool r11)) 6 (.sl 1 0 r7.length)) 7 (.sl 2 0 r16.length)) 8 (.bool r17))) [some ⟨.arr,1,r10.map nInt⟩,some ⟨.arr,7,r7.map (nOff .own)⟩,some ⟨.arr,1,r16.map nInt⟩]=some (X8_1 a0 r11 r17 r10 r7 r16 o):=by
 unfold m8_1 at h;obtain ⟨r20,w19,h⟩:=bcall (e33 r16 r10) h;(try simp -implicitDefEqProofs only [go_sem] at w19);try simp -implicitDefEqProofs only [go_sem,X8_1,k8_1,w19]
 rcases brx h with ⟨b21,h⟩|⟨b21,h⟩
 · cases h;simp -implicitDefEqProofs only [go_sem,X8_1,k8_1,w19,b21]
 · cases h;simp -implicitDefEqProofs only [go_sem,X8_1,k8_1,w19,b21]
noncomputable def X8_2 (a0:List Offer)(r11:Bool)(r17:Bool)(r34:Int)(r10:List Int)(r16:List Int)(o:Bool):Ex×Fr×St :=
 (.normal,frOf 96 (upd (upd (upd (upd (upd anyF 0 (.ts .imm 7 (a0.map (nOff .imm)))) 4 (.sl 0 0 r10.length)) 5 (.bool r11)) 7 (.sl 1 0 r16.length)) 61 (.bool o)),[some ⟨.arr,1,r10.map nInt⟩,some ⟨.arr,1,r16.map nInt⟩])
theorem e8_2 (a0:List Offer)(r11:Bool)(r17:Bool)(r34:Int)(r10:List Int)(r16:List Int)(o:Bool)(h:m8_2 r11 r17 r34 r10 r16=some o):evCL (T.at true) 0 k8_2 (frOf 96 (upd (upd (upd (upd (upd (upd anyF 0 (.ts .imm 7 (a0.map (nOff .imm)))) 4 (.sl 0 0 r10.length)) 5 (.bool r11)) 7 (.sl 1 0 r16.length)) 8 (.bool r17)) 9 (nI r34))) [some ⟨.arr,1,r10.map nInt⟩,some ⟨.arr,1,r16.map nInt⟩]=some (X8_2 a0 r11 r17 r34 r10 r16 o):=by
 unfold m8_2 at h;try simp -implicitDefEqProofs only [go_sem,X8_2,k8_2]
 rcases brx h with ⟨b37,h⟩|⟨b37,h⟩
 · obtain ⟨r40,w39,h⟩:=bcall (e33 r16 r10) h;(try simp -implicitDefEqProofs only [go_sem] at w39);try simp -implicitDefEqProofs only [go_sem,X8_2,k8_2,b37,w39]
   rcases brx h with ⟨b41,h⟩|⟨b41,h⟩
   · cases h;simp -implicitDefEqProofs only [go_sem,X8_2,k8_2,b37,w39,b41]
   · cases h;simp -implicitDefEqProofs only [go_sem,X8_2,k8_2,b37,w39,b41]
 · cases h;simp -implicitDefEqProofs only [go_sem,X8_2,k8_2,b37]
noncomputable def X8_3 (r11:Bool)(r48:Int)(r17:Bool)(r10:List Int)(r49:List Int)(r16:List Int)(o:Bool):Ex×Fr×St :=
 (.normal,frOf 96 (upd (upd (upd anyF 7 (.sl 0 0 r49.length)) 10 (nI r48)) 87 (.bool o)),[some ⟨.arr,1,r49.map nInt⟩])
theorem e8_3 (r11:Bool)(r48:Int)(r17:Bool)(r10:List Int)(r49:List Int)(r16:List Int)(o:Bool)(h:m8_3 r11 r17 r10 r16=some o):evCL (T.at true) 0 k8_3 (frOf 96 (upd (upd (upd (upd (upd (upd anyF 4 (.sl 0 0 r10.length)) 5 (.bool r11)) 7 (.sl 1 0 r49.length)) 10 (nI r48)) 12 (.sl 2 0 r16.length)) 13 (.bool r17))) [some ⟨.arr,1,r10.map nInt⟩,some ⟨.arr,1,r49.map nInt⟩,some ⟨.arr,1,r16.map nInt⟩]=some (X8_3 r11 r48 r17 r10 r49 r16 o):=by
 unfold m8_3 at h;obtain ⟨r62,w61,h⟩:=bcall (e33 r16 r10) h;(try simp -implicitDefEqProofs only [go_sem] at w61);try simp -implicitDefEqProofs only [go_sem,X8_3,k8_3,w61]
 rcases brx h with ⟨b63,h⟩|⟨b63,h⟩
 · cases h;simp -implicitDefEqProofs only [go_sem,X8_3,k8_3,w61,b63]
 · cases h;simp -implicitDefEqProofs only [go_sem,X8_3,k8_3,w61,b63]
theorem e8 (a0:List Offer)(r:Bool)(h:m8 a0=some r):evFL T 8 [.ts .imm 7 (a0.map (nOff .imm))] []=some (.bool r,[]):=by
 unfold m8 at h;rw [evFL_atS fn8 (Nat.le_of_ble_eq_true rfl) rfl (.inr rfl) ⟨rfl,rfl⟩];obtain ⟨r3,w2,h⟩:=bcall (e12 a0 1048576) h;(try simp -implicitDefEqProofs only [go_sem] at w2);try simp -implicitDefEqProofs only [go_sem,i8,c8,w2]
 rcases brx h with ⟨b4,h⟩|⟨b4,h⟩
 · obtain ⟨r7,w6,h⟩:=bcall (e14 a0) h;obtain ⟨⟨r10,r11⟩,w9,h⟩:=bcall (e31 r7) h;replace h:=sel2_some h;obtain ⟨⟨r16,r17⟩,w15,h⟩:=bcall (e32 r7) h;replace h:=sel2_some h;obtain ⟨v24,w23,h⟩:=bcall (e8_1 a0 r11 r17 r10 r7 r16) h;(try simp -implicitDefEqProofs only [go_sem] at w6 w9 w15);simp only [X8_1] at w23;(try simp -implicitDefEqProofs only [go_sem] at w23);try simp -implicitDefEqProofs only [go_sem,i8,c8,w2,b4,w6,w9,w15,w23]
   rcases brx h with ⟨b25,h⟩|⟨b25,h⟩
   · obtain ⟨r30,w29,h⟩:=bcall (e16 r7 r7) h;(try simp -implicitDefEqProofs only [go_sem] at w29);try simp -implicitDefEqProofs only [go_sem,i8,c8,w2,b4,w6,w9,w15,w23,b25,w29]
     rcases brx h with ⟨b31,h⟩|⟨b31,h⟩
     · cases h;simp -implicitDefEqProofs only [go_sem,i8,c8,w2,b4,w6,w9,w15,w23,b25,w29,b31]
     · obtain ⟨⟨r34,r35⟩,w33,h⟩:=bcall (e24 r7 1) h;replace h:=sel2_some h;(try simp -implicitDefEqProofs only [go_sem] at w33);obtain ⟨g36,h⟩:=ck_some h;obtain ⟨v44,w43,h⟩:=bcall (e8_2 a0 r11 r17 r34 r10 r16) h;(try simp -implicitDefEqProofs only [go_sem] at g36);simp only [X8_2] at w43;(try simp -implicitDefEqProofs only [go_sem,g36] at w43);try simp -implicitDefEqProofs only [go_sem,i8,c8,w2,b4,w6,w9,w15,w23,b25,w29,b31,w33,g36,take_of_len_map g36,w43]
       rcases brx h with ⟨b45,h⟩|⟨b45,h⟩
       · obtain ⟨⟨r48,r49⟩,w47,h⟩:=bcall (e34 r16 1) h;replace h:=sel2_some h;(try simp -implicitDefEqProofs only [go_sem,g36] at w47);obtain ⟨g50,h⟩:=ck_some h;obtain ⟨r53,w52,h⟩:=bcall (e35 r49 1) h;(try simp -implicitDefEqProofs only [go_sem] at g50);(try simp -implicitDefEqProofs only [go_sem,g36,g50] at w52);try simp -implicitDefEqProofs only [go_sem,i8,c8,w2,b4,w6,w9,w15,w23,b25,w29,b31,w33,g36,take_of_len_map g36,w43,b45,w47,g50,take_of_len_map g50,w52]
         rcases brx h with ⟨b54,h⟩|⟨b54,h⟩
         · try simp -implicitDefEqProofs only [go_sem,i8,c8,w2,b4,w6,w9,w15,w23,b25,w29,b31,w33,g36,take_of_len_map g36,w43,b45,w47,g50,take_of_len_map g50,w52,b54]
           rcases brx h with ⟨b55,h⟩|⟨b55,h⟩
           · cases h;simp -implicitDefEqProofs only [go_sem,i8,c8,w2,b4,w6,w9,w15,w23,b25,w29,b31,w33,g36,take_of_len_map g36,w43,b45,w47,g50,take_of_len_map g50,w52,b54,b55]
           · obtain ⟨v66,w65,h⟩:=bcall (e8_3 r11 r48 r17 r10 r49 r16) h;simp only [X8_3] at w65;(try simp -implicitDefEqProofs only [go_sem,g36,g50] at w65);try simp -implicitDefEqProofs only [go_sem,i8,c8,w2,b4,w6,w9,w15,w23,b25,w29,b31,w33,g36,take_of_len_map g36,w43,b45,w47,g50,take_of_len_map g50,w52,b54,b55,w65]
             rcases brx h with ⟨b67,h⟩|⟨b67,h⟩
             · cases h;simp -implicitDefEqProofs only [go_sem,i8,c8,w2,b4,w6,w9,w15,w23,b25,w29,b31,w33,g36,take_of_len_map g36,w43,b45,w47,g50,take_of_len_map g50,w52,b54,b55,w65,b67]
             · cases h;simp -implicitDefEqProofs only [go_sem,i8,c8,w2,b4,w6,w9,w15,w23,b25,w29,b31,w33,g36,take_of_len_map g36,w43,b45,w47,g50,take_of_len_map g50,w52,b54,b55,w65,b67]
         · cases h;simp -implicitDefEqProofs only [go_sem,i8,c8,w2,b4,w6,w9,w15,w23,b25,w29,b31,w33,g36,take_of_len_map g36,w43,b45,w47,g50,take_of_len_map g50,w52,b54]
       · cases h;simp -implicitDefEqProofs only [go_sem,i8,c8,w2,b4,w6,w9,w15,w23,b25,w29,b31,w33,g36,take_of_len_map g36,w43,b45]
   · cases h;simp -implicitDefEqProofs only [go_sem,i8,c8,w2,b4,w6,w9,w15,w23,b25]
 · cases h;simp -implicitDefEqProofs only [go_sem,i8,c8,w2,b4]
end Go.Pi.Ytlcanbihlfncoaa.RankOffers
