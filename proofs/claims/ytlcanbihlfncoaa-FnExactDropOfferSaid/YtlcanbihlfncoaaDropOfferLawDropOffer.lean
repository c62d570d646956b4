/- no condition -/
import Derived.Test.YtlcanbihlfncoaaDropOfferStdDropOffer
set_option linter.all false
namespace Go.Pi.Ytlcanbihlfncoaa.DropOffer
open Go Go.Pi
def inB (x lo hi:Int):Bool:=leI lo x&&leI x hi
theorem p48 (x lo hi:Int):m48 x lo hi=some (inB x lo hi):=by simp [m48,m48_1,inB]
theorem p91 (x lo hi:Int):m91 x lo hi=some (inB x lo hi):=by simp [m91,m91_1,inB]
def pathB (xs:List Int):Bool:=allN xs.length (atB xs (fun x=>inB x 1 65535))
def commsB (xs:List Int):Bool:=allN xs.length (fun k=>match xs[k]? with | some x=>inB x 0 1000000&&!(ltI 0 k&&leI x (xs.getD (k-1) 0)) | none=>false)
theorem loop49_1 (a:Attrs)(h:smLInt a.path):loopP (m49_1b a (a.path.length:Int)) 0=some (if pathB a.path=true then .inl () else .inr ()):=by
 unfold smLInt at h
 refine loop_all _ _ _ _ (fun k hk=>?_) ?_
 · simp only [m49_1b,(ltI_iff _ _).2 (Int.ofNat_lt.2 hk),br_true,idx_get hk,bnd_ok,p48,wsucc hk (by omega),atB_get hk,br_some,if_true]
 · simp only [m49_1b,(ltI_not _ _).2 (Int.le_refl _),br_false]
theorem p49_4 (k:Nat)(x:Int)(a:Attrs)(hk:k<a.comms.length)(h:smLInt a.comms):m49_4 (k:Int) x a=some (!(inB x 0 1000000&&!(ltI 0 k&&leI x (a.comms.getD (k-1) 0)))):=by
 unfold smLInt at h;simp only [m49_4,p48,bnd_ok]
 cases inB x 0 1000000 with
 | false=>rfl
 | true =>
  by_cases h0:0<k
  · have hp:k-1<a.comms.length:=by omega
    simp [(ltI_iff 0 (k:Int)).2 (by omega),wpred hk h0 (by omega),idx_get hp,List.getElem?_eq_getElem hp]
  · obtain rfl:k=0:=by omega
    rfl
theorem loop49_2 (a:Attrs)(h:smLInt a.comms):loopP (m49_2b a (a.comms.length:Int)) 0=some (if commsB a.comms=true then .inl () else .inr ()):=by
 have h':=h;unfold smLInt at h
 refine loop_all _ _ _ _ (fun k hk=>?_) ?_
 · simp only [m49_2b,(ltI_iff _ _).2 (Int.ofNat_lt.2 hk),br_true,idx_get hk,bnd_ok,p49_4 k _ a hk h',wsucc hk (by omega),List.getElem?_eq_getElem hk,br_some,if_true,ite_bnot]
 · simp only [m49_2b,(ltI_not _ _).2 (Int.le_refl _),br_false]
def attrsB (a:Attrs):Bool:=inB a.origin 0 2&&leI (a.path.length:Int) 10&&inB a.next 0 4294967295&&inB a.med 0 1000000&&inB a.pref 0 1000000&&leI (a.comms.length:Int) 6&&pathB a.path&&commsB a.comms
theorem p49 (a:Attrs)(h:smAttrs a):m49 a=some (attrsB a):=by
 obtain ⟨_,h1,_,_,_,h5⟩:=h;simp only [m49,loop49_1 a h1,loop49_2 a h5,bnd_ok,m49_5,m75,p48,attrsB]
 cases pathB a.path with
 | false=>simp
 | true =>
  cases commsB a.comms with
  | false=>simp
  | true=>simp [br_and,Bool.and_assoc]
theorem p101_3 (k:Nat)(x:Int)(xs:List Int)(hk:k<xs.length)(h:smLInt xs):m101_3 xs (k:Int) x=some (!(inB x 0 1000000&&!(ltI 0 k&&leI x (xs.getD (k-1) 0)))):=by
 unfold smLInt at h;simp only [m101_3,m100,p91,bnd_ok]
 cases inB x 0 1000000 with
 | false=>rfl
 | true =>
  by_cases h0:0<k
  · have hp:k-1<xs.length:=by omega
    simp [(ltI_iff 0 (k:Int)).2 (by omega),wpred hk h0 (by omega),idx_get hp,List.getElem?_eq_getElem hp]
  · obtain rfl:k=0:=by omega
    rfl
theorem p101 (xs:List Int)(h:smLInt xs):m101 xs=some (leI (xs.length:Int) 6&&commsB xs):=by
 have h':=h;unfold smLInt at h
 have hl:loopP (m101_1b xs (xs.length:Int)) 0=some (if commsB xs=true then .inl () else .inr ()):=by
  refine loop_all _ _ _ _ (fun k hk=>?_) ?_
  · simp only [m101_1b,(ltI_iff _ _).2 (Int.ofNat_lt.2 hk),br_true,idx_get hk,bnd_ok,p101_3 k _ xs hk h',wsucc hk (by omega),List.getElem?_eq_getElem hk,br_some,if_true,ite_bnot]
  · simp only [m101_1b,(ltI_not _ _).2 (Int.le_refl _),br_false]
 simp only [m101,hl,bnd_ok]
 cases commsB xs<;>simp
theorem p115 (xs:List Int)(h:smLInt xs)(f:Int→Option Bool)(p:Int→Bool)(hf:∀x,f x=some (!p x)):m115 xs f=some (if xs.all p=true then -1 else ((xs.findIdx (fun x=>!p x):Nat):Int)):=by
 have h':=h;unfold smLInt at h
 have key:∀(n k:Nat),n+k=xs.length→(∀i,i<k→∀x,xs[i]?=some x→p x=true)→loopP (m115_1b xs (xs.length:Int) f) (k:Int)=some (if xs.all p=true then .inl () else .inr ((xs.findIdx (fun x=>!p x):Nat):Int)):=by
  intro n
  induction n with
  | zero =>
   intro k hk hp
   obtain rfl:k=xs.length:=by omega
   have:xs.all p=true:=List.all_eq_true.2 fun x hx=>by
    obtain ⟨i,hi,rfl⟩:=List.mem_iff_getElem.1 hx;exact hp i hi _ (List.getElem?_eq_getElem hi)
   rw [loopP_out (b:=.inl ()) (by simp only [m115_1b,(ltI_not _ _).2 (Int.le_refl _),br_false]),if_pos this]
  | succ n ih =>
   intro k hk hp
   have hl:k<xs.length:=by omega
   cases hq:p xs[k] with
   | true =>
    rw [loopP_nxt (s':=((k+1:Nat):Int)) (by simp only [m115_1b,(ltI_iff _ _).2 (Int.ofNat_lt.2 hl),br_true,idx_get hl,bnd_ok,hf,hq,Bool.not_true,br_false,wsucc hl (by omega)])]
    refine ih (k+1) (by omega) fun i hi x hx=>?_
    by_cases hik:i=k
    · subst hik;rw [List.getElem?_eq_getElem hl] at hx;cases hx;exact hq
    · exact hp i (by omega) x hx
   | false =>
    rw [loopP_out (b:=.inr (k:Int)) (by simp only [m115_1b,(ltI_iff _ _).2 (Int.ofNat_lt.2 hl),br_true,idx_get hl,bnd_ok,hf,hq,Bool.not_false,br_true])]
    have h1:¬xs.all p=true:=fun ha=>by have:=List.all_eq_true.1 ha _ (List.getElem_mem hl);rw [hq] at this;cases this
    have h2:xs.findIdx (fun x=>!p x)=k:=by
     refine (List.findIdx_eq hl).2 ⟨by simp [hq],fun j hj=>?_⟩
     have:=hp j hj _ (List.getElem?_eq_getElem (by omega))
     simp [this]
    rw [if_neg h1,h2]
 have:=key xs.length 0 (by omega) (fun i hi=>by omega)
 simp only [m115,Int.ofNat_zero] at this ⊢;rw [this,bnd_ok]
 split<;>rfl
theorem p98 (xs:List Int)(h:smLInt xs):m98 xs=some (leI (xs.length:Int) 10&&pathB xs):=by
 have hp:pathB xs=xs.all (fun x=>inB x 1 65535):=allN_list xs (fun x=>inB x 1 65535)
 simp only [m98,m98_1,m109,p115 xs h (fun y0=>m110 y0) (fun x=>inB x 1 65535) (fun x=>by simp only [m110,m66,p91,bnd_ok]),bnd_ok,hp]
 cases xs.all (fun x=>inB x 1 65535) with
 | true=>simp [leI]
 | false=>simp [leI]
theorem p77 (a:Attrs)(h:smAttrs a):m77 a=some (attrsB a):=by
 obtain ⟨_,h1,_,_,_,h5⟩:=h;simp only [m77,m77_1,p91,p98 _ h1,p101 _ h5,m99,m100,bnd_ok,attrsB,br_and]
 congr 1
 simp only [Bool.and_assoc]
 ac_rfl
def offerB (a:Offer):Bool:=inB a.peer 0 5&&attrsB a.attrs
theorem p50 (a:Offer)(h:smOffer a):m50 a=some (offerB a):=by
 simp only [m50,m50_1,m76,p91,p77 _ h.2,bnd_ok,br_and,offerB]
def cmpI (a b:Int):Int:=if a<b then -1 else if b<a then 1 else 0
theorem half {i j:Nat}(h:i+j≤4611686018427387904):wcv .i64 (wshr .u64 (wcv .u64 (wadd .i64 (i:Int) (j:Int))) 1)=(((i+j) / 2:Nat):Int):=by
 have e1:wadd .i64 (i:Int) (j:Int)=((i+j:Nat):Int):=by rw [wadd64 (by omega) (by omega)];omega
 have e2:wcv .u64 ((i+j:Nat):Int)=((i+j:Nat):Int):=by simp [wcv,IntKind.wrap,IntKind.bits,IntKind.signed];omega
 have e3:wshr .u64 ((i+j:Nat):Int) 1=(((i+j) / 2:Nat):Int):=by
  unfold wshr
  have:min (1:Int).toNat IntKind.u64.bits=1:=by decide
  rw [this]
  rw [Int.fdiv_eq_ediv_of_nonneg _ (by decide)]
  have:((2:Int) ^ 1)=2:=by decide
  rw [this];omega
 have e4:wcv .i64 (((i+j) / 2:Nat):Int)=(((i+j) / 2:Nat):Int):=by simp [wcv,IntKind.wrap,IntKind.bits,IntKind.signed];omega
 rw [e1,e2,e3,e4]
def goodL (l:List Offer):Bool:=allN l.length (fun k=>match l[k]? with | some x=>offerB x&&!(ltI 0 k&&leI x.peer (l.getD (k-1) x).peer) | none=>false)
theorem p13_3 (l:List Offer)(k:Nat)(hk:k<l.length)(hl:l.length≤1048576)(h:smOffer l[k]):m13_3 l (k:Int) l[k]=some (!(offerB l[k]&&!(ltI 0 k&&leI l[k].peer (l.getD (k-1) l[k]).peer))):=by
 simp only [m13_3,p48,p49 _ h.2,bnd_ok,offerB]
 cases inB l[k].peer 0 5 with
 | false=>rfl
 | true =>
  cases attrsB l[k].attrs with
  | false=>rfl
  | true =>
   by_cases h0:0<k
   · have hp:k-1<l.length:=by omega
     simp [(ltI_iff 0 (k:Int)).2 (by omega),wpred hk h0 (by omega),idx_get hp,List.getElem?_eq_getElem hp]
   · obtain rfl:k=0:=by omega
     rfl
theorem p13L (l:List Offer)(hl:smLOffer l):m13 l=some (goodL l):=by
 have h1:=hl.1
 have e:loopP (m13_1b l (l.length:Int)) 0=some (if goodL l=true then .inl () else .inr ()):=by
  refine loop_all _ _ _ _ (fun k hk=>?_) ?_
  · simp only [m13_1b,(ltI_iff _ _).2 (Int.ofNat_lt.2 hk),br_true,idx_get hk,bnd_ok,p13_3 l k hk h1 (hl.2 _ (List.getElem_mem hk)),wsucc hk (by omega),List.getElem?_eq_getElem hk,br_some,if_true,ite_bnot]
  · simp only [m13_1b,(ltI_not _ _).2 (Int.le_refl _),br_false]
 simp only [m13,e,bnd_ok]
 cases goodL l<;>rfl
theorem p15_3 (l:List Offer)(k:Nat)(hk:k<l.length)(hl:l.length≤1048576)(h:smOffer l[k]):m15_3 l (k:Int) l[k]=some (!(offerB l[k]&&!(ltI 0 k&&leI l[k].peer (l.getD (k-1) l[k]).peer))):=by
 simp only [m15_3,p50 _ h,bnd_ok]
 cases offerB l[k] with
 | false=>rfl
 | true =>
  by_cases h0:0<k
  · have hp:k-1<l.length:=by omega
    simp [(ltI_iff 0 (k:Int)).2 (by omega),wpred hk h0 (by omega),idx_get hp,List.getElem?_eq_getElem hp]
  · obtain rfl:k=0:=by omega
    rfl
theorem p15L (l:List Offer)(hl:smLOffer l):m15 l=some (goodL l):=by
 have h1:=hl.1
 have e:loopP (m15_1b l (l.length:Int)) 0=some (if goodL l=true then .inl () else .inr ()):=by
  refine loop_all _ _ _ _ (fun k hk=>?_) ?_
  · simp only [m15_1b,(ltI_iff _ _).2 (Int.ofNat_lt.2 hk),br_true,idx_get hk,bnd_ok,p15_3 l k hk h1 (hl.2 _ (List.getElem_mem hk)),wsucc hk (by omega),List.getElem?_eq_getElem hk,br_some,if_true,ite_bnot]
  · simp only [m15_1b,(ltI_not _ _).2 (Int.le_refl _),br_false]
 simp only [m15,e,bnd_ok]
 cases goodL l<;>rfl
theorem goodL_srt {l:List Offer}(h:goodL l=true):∀i j (hj:j<l.length) (hij:i<j),(l[i]'(by omega)).peer<l[j].peer:=by
 have h:=allN_iff.1 h
 have one:∀k,(hk:k+1<l.length)→(l[k]'(by omega)).peer<l[k+1].peer:=by
  intro k hk;have:=h (k+1) hk;rw [List.getElem?_eq_getElem hk] at this;simp only [Bool.and_eq_true,Bool.not_eq_true',Bool.and_eq_false_iff] at this
  rcases this.2 with g|g
  · rw [ltI_not] at g;omega
  · rw [leI_not] at g
    rw [List.getD_eq_getElem?_getD,Nat.add_sub_cancel,List.getElem?_eq_getElem (by omega)] at g
    simp only [Option.getD_some] at g;omega
 intro i j
 induction j with
 | zero=>intro hj hij;omega
 | succ j ih =>
  intro hj hij;have h1:=one j hj
  by_cases c:i=j
  · subst c;exact h1
  · have:=ih (by omega) (by omega);omega
def At (l:List Offer)(n:Int)(i:Nat):Prop:=i≤l.length∧(∀k (hk:k<l.length),k<i→l[k].peer<n)∧(∀k (hk:k<l.length),i≤k→¬l[k].peer<n)
theorem p83 (l:List Offer)(hl:smLOffer l):m83 l=some l:=by
 have e:loopP (m83_1b l (l.length:Int)) (0,[])=some l:=by
  have:=loop_fold (body:=m83_1b l (l.length:Int)) l (fun acc x=>acc++[x]) id (fun k acc=>acc.length=k) (fun k hk acc hacc=>by
   have hs:=hl.2 _ (List.getElem_mem hk);have h1:l[k].attrs.path.length≤1048576:=hs.2.2.1;have h2:l[k].attrs.comms.length≤1048576:=hs.2.2.2.2.2.2
   have e87:m87 l[k].attrs=some l[k].attrs:=by unfold m87;rw [ck_ok (by omega),ck_ok (by omega)]
   have:=hl.1
   refine ⟨?_,by simp [hacc]⟩
   simp only [m83_1b,sel2_ok,(ltI_iff (k:Int) (l.length:Int)).2 (by omega),br_true,idx_get hk,bnd_ok,e87,ck_ok (show acc.length+1≤68719476736 by omega),wsucc hk (by omega)]) (fun acc hacc=>by simp only [m83_1b,sel2_ok,(ltI_not (l.length:Int) (l.length:Int)).2 (by omega),br_false];rfl) [] rfl
  rw [this]
  have key:∀(l acc:List Offer),l.foldl (fun acc x=>acc++[x]) acc=acc++l:=by
   intro l
   induction l with
   | nil=>intro acc;simp
   | cons x l ih=>intro acc;rw [List.foldl_cons,ih];simp
  rw [key];rfl
 unfold m83;rw [e,bnd_ok]
theorem p86 (a:Attrs)(h1:a.path.length≤1048576)(h2:a.comms.length≤1048576):m86 a=some a:=by
 unfold m86 m103
 rw [ck_ok (by omega),bnd_ok,ck_ok (by omega),bnd_ok]
theorem p59 (l:List Offer)(hl:smLOffer l):m59 l=some l:=by
 have e:loopP (m59_1b l (l.length:Int)) (0,[])=some l:=by
  have:=loop_fold (body:=m59_1b l (l.length:Int)) l (fun acc x=>acc++[x]) id (fun k acc=>acc.length=k) (fun k hk acc hacc=>by
   have hs:=hl.2 _ (List.getElem_mem hk);have h1:l[k].attrs.path.length≤1048576:=hs.2.2.1;have h2:l[k].attrs.comms.length≤1048576:=hs.2.2.2.2.2.2;have:=hl.1
   refine ⟨?_,by simp [hacc]⟩
   simp only [m59_1b,sel2_ok,(ltI_iff (k:Int) (l.length:Int)).2 (by omega),br_true,idx_get hk,bnd_ok,p86 _ h1 h2,ck_ok (show acc.length+1≤68719476736 by omega),wsucc hk (by omega)]) (fun acc hacc=>by simp only [m59_1b,sel2_ok,(ltI_not (l.length:Int) (l.length:Int)).2 (by omega),br_false];rfl) [] rfl
  rw [this]
  have key:∀(l acc:List Offer),l.foldl (fun acc x=>acc++[x]) acc=acc++l:=by
   intro l
   induction l with
   | nil=>intro acc;simp
   | cons x l ih=>intro acc;rw [List.foldl_cons,ih];simp
  rw [key];rfl
 unfold m59;rw [e,bnd_ok]
theorem p82 (a b:Int):m82 a b=some (cmpI a b):=by
 unfold m82 m102 cmpI;rw [bnd_ok,bnd_ok,eqI_self,eqI_self,Bool.not_true,br_false,br_false]
 by_cases h1:a<b
 · rw [(ltI_iff _ _).2 h1,br_true,if_pos h1]
 · rw [(ltI_not _ _).2 (by omega),br_false,if_neg h1]
   by_cases h2:b<a
   · rw [(ltI_iff _ _).2 h2,br_true,if_pos h2]
   · rw [(ltI_not _ _).2 (by omega),br_false,if_neg h2]
theorem p85 (x:Offer)(n:Int):m85 x n=some (cmpI x.peer n):=by
 unfold m85;rw [p82,bnd_ok]
theorem p57 (l:List Offer)(n:Int)(hl:l.length≤1048576)(hs:goodL l=true):∃i:Nat,At l n i∧m57 l n=some ((i:Int),decide (∃h:i<l.length,l[i].peer=n)):=by
 have srt:=goodL_srt hs
 obtain ⟨b,hb,i,rfl,hA⟩:=loopP_inv (body:=m84_1b l n (fun y0 y1=>m85 y0 y1)) (fun p=>∃i j:Nat,p=((i:Int),(j:Int))∧i≤j∧j≤l.length∧(∀k (hk:k<l.length),k<i→l[k].peer<n)∧(∀k (hk:k<l.length),j≤k→¬l[k].peer<n))
  (fun b=>∃i:Nat,b=(i:Int)∧At l n i) (fun p=>(p.2-p.1).toNat)
  (fun p hp=>by
   obtain ⟨i,j,rfl,hij,hj,h1,h2⟩:=hp
   by_cases c:i<j
   · have hh:(i+j) / 2<l.length:=by omega
     simp only [m84_1b,sel2_ok,(ltI_iff (i:Int) (j:Int)).2 (by omega),br_true]
     rw [half (by omega),idx_get hh,bnd_ok,p85,bnd_ok]
     by_cases d:l[(i+j) / 2].peer<n
     · have hc:cmpI l[(i+j) / 2].peer n=-1:=by unfold cmpI;rw [if_pos d]
       rw [hc,(ltI_iff (-1) 0).2 (by omega)]
       simp only [m84_3,br_true,bnd_ok,sel2_ok]
       refine ⟨_,rfl,⟨(i+j) / 2+1,j,?_,by omega,hj,fun k hk hki=>?_,h2⟩,?_⟩
       · rw [wadd64 (by omega) (by omega)];rfl
       · by_cases ck:k=(i+j) / 2
         · subst ck;exact d
         · have:=srt k _ hh (by omega);omega
       · rw [wadd64 (by omega) (by omega)];show (((j:Int))-_).toNat<((j:Int)-(i:Int)).toNat;omega
     · have hc:¬cmpI l[(i+j) / 2].peer n<0:=by unfold cmpI;rw [if_neg d];split<;>omega
       rw [(ltI_not _ _).2 (by omega)]
       simp only [m84_3,br_false,bnd_ok,sel2_ok]
       refine ⟨_,rfl,⟨i,(i+j) / 2,rfl,by omega,by omega,h1,fun k hk hki=>?_⟩,?_⟩
       · by_cases ck:k=(i+j) / 2
         · subst ck;exact d
         · have:=srt _ k hk (show (i+j) / 2<k by omega);omega
       · show (((((i+j) / 2:Nat):Int))-(i:Int)).toNat<((j:Int)-(i:Int)).toNat;omega
   · simp only [m84_1b,sel2_ok,(ltI_not (i:Int) (j:Int)).2 (by omega),br_false]
     exact ⟨_,rfl,i,rfl,by omega,h1,fun k hk hki=>h2 k hk (by omega)⟩) (0,(l.length:Int)) ⟨0,l.length,rfl,by omega,by omega,fun k hk h=>by omega,fun k hk h=>by omega⟩
 refine ⟨i,hA,?_⟩
 have e4:m84_4 l n (l.length:Int) (i:Int) (fun y0 y1=>m85 y0 y1)=some (decide (∃h:i<l.length,l[i].peer=n)):=by
  unfold m84_4
  by_cases c:i<l.length
  · rw [(ltI_iff _ _).2 (by omega),br_true,idx_get c,bnd_ok]
    show bnd (m85 l[i] n) _=_;rw [p85,bnd_ok,Option.some.injEq,Bool.eq_iff_iff,eqI_iff,decide_eq_true_eq];unfold cmpI
    constructor
    · intro h;refine ⟨c,?_⟩;split at h
      · omega
      · split at h<;>omega
    · intro ⟨_,h⟩;rw [if_neg (by omega),if_neg (by omega)]
  · rw [(ltI_not _ _).2 (by omega),br_false,decide_eq_false (fun ⟨h,_⟩=>c h)]
 unfold m57 m84;rw [hb,bnd_ok,e4,bnd_ok,bnd_ok,sel2_ok]
theorem sm_sub {l l':List Offer}(hl:smLOffer l)(h1:l'.length≤l.length)(h2:∀x∈l',x∈l):smLOffer l':=⟨by have:=hl.1;omega,fun x hx=>hl.2 x (h2 x hx)⟩
def OR (x:Offer)(k k':Int)(y:Offer):Prop :=
 y=⟨k,⟨k+1,ramp (k+2) x.attrs.path.length,k+2+x.attrs.path.length,k+3+x.attrs.path.length,k+4+x.attrs.path.length,ramp (k+5+x.attrs.path.length) x.attrs.comms.length⟩⟩∧k'=k+5+x.attrs.path.length+x.attrs.comms.length∧x.attrs.path.length≤1048576∧x.attrs.comms.length≤1048576
theorem kOffers (l:List Offer)(k:Int)(hl:smLOffer l)(h0:0≤k)(h1:k≤1000):∃k' ys,m24 l k=some (k',ys)∧ys.length=l.length∧k≤k'∧k'≤2305843009213693952∧m25 ys k=some k':=by
 obtain ⟨k',ys,e1,e2,e3,e4,e5⟩:=mark_rel (good:=smOffer) (W:=2097157) (B:=4611686018427387904) (by omega) OR
  (fun x k h h0 h1=>by
   have a1:x.attrs.path.length≤1048576:=h.2.2.1;have a2:x.attrs.comms.length≤1048576:=h.2.2.2.2.2.2
   exact ⟨_,_,⟨rfl,rfl,a1,a2⟩,by omega,by omega⟩) (body:=m24_1b) (fun i l k k' y h hl hr h0 h1=>by
   obtain ⟨rfl,rfl,a1,a2⟩:=hr
   have w1:wadd .i64 k 1=k+1:=wadd64 (by omega) (by omega)
   have w2:wadd .i64 (k+1) 1=k+2:=by rw [wadd64 (by omega) (by omega)];omega
   have w3:∀p:Nat,p≤1048576→wadd .i64 (k+2+p) 1=k+3+p:=fun p hp=>by rw [wadd64 (by omega) (by omega)];omega
   have w4:∀p:Nat,p≤1048576→wadd .i64 (k+3+p) 1=k+4+p:=fun p hp=>by rw [wadd64 (by omega) (by omega)];omega
   have w5:∀p:Nat,p≤1048576→wadd .i64 (k+4+p) 1=k+5+p:=fun p hp=>by rw [wadd64 (by omega) (by omega)];omega
   simp only [m24_1b,sel3_ok,(ltI_iff (i:Int) (l.length:Int)).2 (by omega),br_true,idx_get h,bnd_ok,w1,w2,k34 _ (k+2) a1 (by omega) (by omega),sel2_ok,ck_ok (ramp_length _ _),w3 _ a1,w4 _ a1,w5 _ a1,k34 _ (k+5+(l[i].attrs.path.length:Int)) a2 (by omega) (by omega),wsucc h (by omega),Int.toNat_natCast,List.set_set])
  (fun l k=>by simp only [m24_1b,sel3_ok,(ltI_not (l.length:Int) (l.length:Int)).2 (by omega),br_false])
  (hbody:=m25_1b) (fun l i k k' x h hl hr h0 h1=>by
   obtain ⟨hy,rfl,a1,a2⟩:=hr
   have w1:wadd .i64 k 1=k+1:=wadd64 (by omega) (by omega)
   have w2:wadd .i64 (k+1) 1=k+2:=by rw [wadd64 (by omega) (by omega)];omega
   have w3:wadd .i64 (k+2+(x.attrs.path.length:Int)) 1=k+3+x.attrs.path.length:=by rw [wadd64 (by omega) (by omega)];omega
   have w4:wadd .i64 (k+3+(x.attrs.path.length:Int)) 1=k+4+x.attrs.path.length:=by rw [wadd64 (by omega) (by omega)];omega
   have w5:wadd .i64 (k+4+(x.attrs.path.length:Int)) 1=k+5+x.attrs.path.length:=by rw [wadd64 (by omega) (by omega)];omega
   simp only [m25_1b,sel2_ok,(ltI_iff (i:Int) (l.length:Int)).2 (by omega),br_true,idx_get h,bnd_ok,hy,w1,w2,eqI_self,d35 _ (k+2) a1 (by omega) (by omega),(ltI_not (k+2+(x.attrs.path.length:Int)) 0).2 (by omega),br_false,w3,w4,w5,d35 _ (k+5+(x.attrs.path.length:Int)) a2 (by omega) (by omega),(ltI_not (k+5+(x.attrs.path.length:Int)+(x.attrs.comms.length:Int)) 0).2 (by omega),wsucc h (by omega)])
  (fun l k=>by simp only [m25_1b,sel2_ok,(ltI_not (l.length:Int) (l.length:Int)).2 (by omega),br_false])
  l k hl.1 hl.2 h0 (by have:=hl.1;have:(l.length:Int)*2097157≤1048576*2097157:=Int.mul_le_mul_of_nonneg_right (by omega) (by omega);omega)
 have:=hl.1
 have hb:(l.length:Int)*2097157≤1048576*2097157:=Int.mul_le_mul_of_nonneg_right (by omega) (by omega)
 exact ⟨k',ys,by unfold m24;rw [e1,bnd_ok,sel2_ok],e2,e3,by omega,by unfold m25;rw [e5,bnd_ok,selS_inl]⟩
theorem good_six {l:List Offer}(hg:goodL l=true):l.length≤6:=by
 have srt:=goodL_srt hg;have hall:=allN_iff.1 hg
 have rng:∀k (hk:k<l.length),(k:Int)≤l[k].peer∧l[k].peer≤5:=by
  intro k
  induction k with
  | zero =>
   intro hk;have:=hall 0 hk;rw [List.getElem?_eq_getElem hk] at this;simp only [Bool.and_eq_true,offerB,inB,leI_iff] at this;have:=this.1.1;omega
  | succ k ih =>
   intro hk
   have h0:=ih (by omega)
   have h1:=srt k (k+1) hk (by omega)
   have:=hall (k+1) hk;rw [List.getElem?_eq_getElem hk] at this;simp only [Bool.and_eq_true,offerB,inB,leI_iff] at this;have:=this.1.1;omega
 by_cases c6:l.length≤6
 · exact c6
 · have:=rng 6 (by omega);omega
def dropL (l:List Offer)(n:Int):List Offer:=l.filter fun x=>!eqI x.peer n
theorem p56 (l:List Offer)(n:Int)(hl:smLOffer l):m56 l n=some (dropL l n,ltI ((dropL l n).length:Int) (l.length:Int)):=by
 have e:loopP (m56_1b n (l.length:Int) l) (0,[])=some (dropL l n):=by
  have:=loop_fold (body:=m56_1b n (l.length:Int) l) l (fun acc x=>if (!eqI x.peer n)=true then acc++[x] else acc) id (fun k acc=>acc.length≤k) (fun k hk acc hacc=>by
   have:=hl.1
   have e3:m56_3 (!eqI l[k].peer n) acc l[k]=some (if (!eqI l[k].peer n)=true then acc++[l[k]] else acc):=by
    unfold m56_3
    rw [ck_ok (by omega)]
    cases eqI l[k].peer n<;>rfl
   refine ⟨?_,by split<;>(try simp only [List.length_append,List.length_cons,List.length_nil])<;>omega⟩
   simp only [m56_1b,sel2_ok,(ltI_iff (k:Int) (l.length:Int)).2 (by omega),br_true,idx_get hk,bnd_ok,e3,wsucc hk (by omega)]) (fun acc hacc=>by simp only [m56_1b,sel2_ok,(ltI_not (l.length:Int) (l.length:Int)).2 (by omega),br_false];rfl) [] (by simp)
  rw [this]
  have key:∀(l acc:List Offer),l.foldl (fun acc x=>if (!eqI x.peer n)=true then acc++[x] else acc) acc=acc++l.filter fun x=>!eqI x.peer n:=by
   intro l
   induction l with
   | nil=>intro acc;simp
   | cons x l ih =>
    intro acc;rw [List.foldl_cons,ih,List.filter_cons]
    cases eqI x.peer n<;>simp
  rw [key];rfl
 unfold m56;rw [p83 l hl,bnd_ok,e,bnd_ok]
theorem drop_found {l:List Offer}{n:Int}{i:Nat}(hs:goodL l=true)(hi:i<l.length)(hp:l[i].peer=n):dropL l n=l.take i++l.drop (i+1):=by
 have srt:=goodL_srt hs
 have e:l=l.take i++l[i]::l.drop (i+1):=by rw [←List.drop_eq_getElem_cons hi,List.take_append_drop]
 unfold dropL
 conv=>lhs;rw [e]
 rw [List.filter_append,List.filter_cons]
 have h0:(!eqI l[i].peer n)=false:=by simp [hp,eqI_self]
 rw [h0];simp only [Bool.false_eq_true,if_false];rw [List.filter_eq_self.2,List.filter_eq_self.2]
 · intro x hx;obtain ⟨k,hk,rfl⟩:=List.mem_iff_getElem.1 hx;rw [List.getElem_drop];rw [List.length_drop] at hk
   have:=srt i (i+1+k) (by omega) (by omega)
   simp only [Bool.not_eq_true'];rw [eqI_not];omega
 · intro x hx;obtain ⟨k,hk,rfl⟩:=List.mem_iff_getElem.1 hx;rw [List.getElem_take];rw [List.length_take] at hk
   have:=srt k i hi (by omega)
   simp only [Bool.not_eq_true'];rw [eqI_not];omega
theorem drop_none {l:List Offer}{n:Int}{i:Nat}(hA:At l n i)(h:¬∃h:i<l.length,l[i].peer=n)(hs:goodL l=true):dropL l n=l:=by
 have srt:=goodL_srt hs;unfold dropL;rw [List.filter_eq_self];intro x hx;obtain ⟨k,hk,rfl⟩:=List.mem_iff_getElem.1 hx;simp only [Bool.not_eq_true'];rw [eqI_not];intro he
 by_cases c:k<i
 · have:=hA.2.1 k hk c;omega
 · by_cases c2:k=i
   · subst c2;exact h ⟨hk,he⟩
   · have h1:=hA.2.2 i (by omega) (Nat.le_refl _)
     have h2:=srt i k hk (by omega)
     omega
theorem drop_len (l:List Offer)(n:Int):(dropL l n).length≤l.length:=List.length_filter_le _ _
theorem drop_sm {l:List Offer}{n:Int}(h:smLOffer l):smLOffer (dropL l n):=sm_sub h (drop_len l n) (fun x hx=>(List.mem_filter.1 hx).1)
theorem drop_ok (l:List Offer)(n:Int)(hl:smLOffer l):∃R b,m22 l n=some (R,b)∧m23 l n=some (R,b)∧(b=true→R=dropL l n∧goodL l=true∧(dropL l n).length+1=l.length)∧(b=false→R=[]):=by
 unfold m22 m23;rw [p13L l hl,bnd_ok,p15L l hl,bnd_ok]
 cases hg:goodL l with
 | false=>rw [br_false,br_false];exact ⟨[],false,rfl,rfl,by simp,by simp⟩
 | true =>
  have h1:=hl.1;rw [br_true,br_true,p56 l n hl,bnd_ok,sel2_ok];obtain ⟨i,hA,e⟩:=p57 l n h1 hg;rw [e,bnd_ok,sel2_ok]
  by_cases c:∃h:i<l.length,l[i].peer=n
  · obtain ⟨hi,hp⟩:=c;have hd:=drop_found hg hi hp
    have hlen:(dropL l n).length+1=l.length:=by rw [hd];simp;omega
    have c:∃h:i<l.length,l[i].peer=n:=⟨hi,hp⟩
    rw [decide_eq_true c,br_true,p59 l hl,bnd_ok,(ltI_iff _ _).2 (by omega),br_true]
    have e2:delP l (i:Int) (wadd .i64 (i:Int) 1)=some (l.take i++l.drop (i+1)):=by
     unfold delP
     rw [wsucc hi (by omega),ck_ok ⟨by omega,by omega,by omega⟩]
     simp
    rw [e2,bnd_ok,←hd]
    exact ⟨_,true,rfl,rfl,fun _=>⟨rfl,rfl,hlen⟩,by simp⟩
  · have hd:=drop_none hA c hg
    rw [decide_eq_false c,br_false,hd,(ltI_not _ _).2 (by omega),br_false]
    exact ⟨[],false,rfl,rfl,by simp,by simp⟩
theorem law (a0:List Offer)(a1:Int)(w0:wfLOffer a0)(w1:wfInt a1):m5 a0 a1=some true:=by
 unfold m5
 obtain ⟨v,hv,v1,v2,hsv⟩:=z12 a0 1048576 w0 (by omega) (by omega)
 rw [hv,bnd_ok]
 by_cases c0:v<0
 · rw [(ltI_iff _ _).2 c0,br_true]
 rw [(ltI_not _ _).2 (by omega),br_false]
 have sa:smLOffer a0:=hsv (by omega)
 rw [t14 a0 sa,bnd_ok];obtain ⟨X,B,e1,e2,h3,h4⟩:=drop_ok a0 a1 sa
 have sX:smLOffer X:=by
  cases B with
  | true=>rw [(h3 rfl).1];exact drop_sm sa
  | false=>rw [h4 rfl];exact ⟨by simp,by simp⟩
 have h6:B=true→X.length≤6:=fun hB=>by
  obtain ⟨r1,r2,r3⟩:=h3 hB;have:=good_six r2;rw [r1];omega
 have h7:X.length≤1000:=by
  cases B with
  | true=>have:=h6 rfl;omega
  | false=>rw [h4 rfl];simp
 have qX:=q16 X sX;have qa:=q16 a0 sa
 obtain ⟨k1,ya,f1,f2,f3,f4,_⟩:=kOffers a0 1 sa (by omega) (by omega)
 obtain ⟨k2,yb,g1,g2,g3,g4,g5⟩:=kOffers X 1 sX (by omega) (by omega)
 have d1:m5_1 X B B X=some false:=by simp only [m5_1,qX,bnd_ok,br_true,eqB_self,Bool.not_true]
 have d2:m5_2 X B B k1 X=some false:=by simp only [m5_2,(ltI_not k1 0).2 (by omega),br_false,qX,bnd_ok,br_true,eqB_self,Bool.not_true]
 have d3:m5_3 X B B X=some false:=by simp only [m5_3,qX,bnd_ok,br_true,eqB_self,Bool.not_true]
 rw [e1,bnd_ok,sel2_ok,e2,bnd_ok,sel2_ok,d1,bnd_ok,br_false,qa,bnd_ok,br_true,f1,bnd_ok,sel2_ok,ck_ok f2,d2,bnd_ok,br_false,
  g1,bnd_ok,sel2_ok,ck_ok g2,g5,bnd_ok,(ltI_not k2 0).2 (by omega),br_false,eqI_self,br_true,d3,bnd_ok,br_false]
end Go.Pi.Ytlcanbihlfncoaa.DropOffer
