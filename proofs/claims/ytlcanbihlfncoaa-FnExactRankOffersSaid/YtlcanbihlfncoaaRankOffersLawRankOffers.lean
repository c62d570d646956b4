/- no condition -/
import Derived.Test.YtlcanbihlfncoaaRankOffersStdRankOffers
set_option linter.all false
namespace Go.Pi.Ytlcanbihlfncoaa.RankOffers
open Go Go.Pi
def inB (x lo hi:Int):Bool:=leI lo x&&leI x hi
theorem p48 (x lo hi:Int):m48 x lo hi=some (inB x lo hi):=by simp [m48,m48_1,inB]
theorem p91 (x lo hi:Int):m91 x lo hi=some (inB x lo hi):=by simp [m91,m91_1,inB]
def pathB (xs:List Int):Bool:=allN xs.length (atB xs (fun x=>inB x 1 65535))
def commsB (xs:List Int):Bool:=allN xs.length (fun k=>match xs[k]? with | some x=>inB x 0 1000000&&!(ltI 0 k&&leI x (xs.getD (k-1) 0)) | none=>false)
theorem loop49_1 (a:Attrs)(h:smLInt a.path):loopP (m49_1b a (a.path.length:Int)) 0=some (if pathB a.path=true then .inl () else .inr ()):=by
 unfold smLInt at h
 refine loop_all _ _ _ _ (fun k hk=>?_) ?_
 · simp only [m49_1b,(ltI_iff _ _).2 (Int.ofNat_lt.2 hk),br_true,idx_get hk,bnd_ok,p48,wsucc hk (by omega),atB_get hk,br_some,if_true]
 · simp only [m49_1b,(ltI_not _ _).2 (Int.le_refl _),br_false]
theorem p49_4 (k:Nat)(x:Int)(a:Attrs)(hk:k<a.comms.length)(h:smLInt a.comms):m49_4 (k:Int) x a=some (!(inB x 0 1000000&&!(ltI 0 k&&leI x (a.comms.getD (k-1) 0)))):=by
 unfold smLInt at h;simp only [m49_4,p48,bnd_ok]
 cases inB x 0 1000000 with
 | false=>rfl
 | true =>
  by_cases h0:0<k
  · have hp:k-1<a.comms.length:=by omega
    simp [(ltI_iff 0 (k:Int)).2 (by omega),wpred hk h0 (by omega),idx_get hp,List.getElem?_eq_getElem hp]
  · obtain rfl:k=0:=by omega
    rfl
theorem loop49_2 (a:Attrs)(h:smLInt a.comms):loopP (m49_2b a (a.comms.length:Int)) 0=some (if commsB a.comms=true then .inl () else .inr ()):=by
 have h':=h;unfold smLInt at h
 refine loop_all _ _ _ _ (fun k hk=>?_) ?_
 · simp only [m49_2b,(ltI_iff _ _).2 (Int.ofNat_lt.2 hk),br_true,idx_get hk,bnd_ok,p49_4 k _ a hk h',wsucc hk (by omega),List.getElem?_eq_getElem hk,br_some,if_true,ite_bnot]
 · simp only [m49_2b,(ltI_not _ _).2 (Int.le_refl _),br_false]
def attrsB (a:Attrs):Bool:=inB a.origin 0 2&&leI (a.path.length:Int) 10&&inB a.next 0 4294967295&&inB a.med 0 1000000&&inB a.pref 0 1000000&&leI (a.comms.length:Int) 6&&pathB a.path&&commsB a.comms
theorem p49 (a:Attrs)(h:smAttrs a):m49 a=some (attrsB a):=by
 obtain ⟨_,h1,_,_,_,h5⟩:=h;simp only [m49,loop49_1 a h1,loop49_2 a h5,bnd_ok,m49_5,m75,p48,attrsB]
 cases pathB a.path with
 | false=>simp
 | true =>
  cases commsB a.comms with
  | false=>simp
  | true=>simp [br_and,Bool.and_assoc]
theorem p101_3 (k:Nat)(x:Int)(xs:List Int)(hk:k<xs.length)(h:smLInt xs):m101_3 xs (k:Int) x=some (!(inB x 0 1000000&&!(ltI 0 k&&leI x (xs.getD (k-1) 0)))):=by
 unfold smLInt at h;simp only [m101_3,m100,p91,bnd_ok]
 cases inB x 0 1000000 with
 | false=>rfl
 | true =>
  by_cases h0:0<k
  · have hp:k-1<xs.length:=by omega
    simp [(ltI_iff 0 (k:Int)).2 (by omega),wpred hk h0 (by omega),idx_get hp,List.getElem?_eq_getElem hp]
  · obtain rfl:k=0:=by omega
    rfl
theorem p101 (xs:List Int)(h:smLInt xs):m101 xs=some (leI (xs.length:Int) 6&&commsB xs):=by
 have h':=h;unfold smLInt at h
 have hl:loopP (m101_1b xs (xs.length:Int)) 0=some (if commsB xs=true then .inl () else .inr ()):=by
  refine loop_all _ _ _ _ (fun k hk=>?_) ?_
  · simp only [m101_1b,(ltI_iff _ _).2 (Int.ofNat_lt.2 hk),br_true,idx_get hk,bnd_ok,p101_3 k _ xs hk h',wsucc hk (by omega),List.getElem?_eq_getElem hk,br_some,if_true,ite_bnot]
  · simp only [m101_1b,(ltI_not _ _).2 (Int.le_refl _),br_false]
 simp only [m101,hl,bnd_ok]
 cases commsB xs<;>simp
theorem p115 (xs:List Int)(h:smLInt xs)(f:Int→Option Bool)(p:Int→Bool)(hf:∀x,f x=some (!p x)):m115 xs f=some (if xs.all p=true then -1 else ((xs.findIdx (fun x=>!p x):Nat):Int)):=by
 have h':=h;unfold smLInt at h
 have key:∀(n k:Nat),n+k=xs.length→(∀i,i<k→∀x,xs[i]?=some x→p x=true)→loopP (m115_1b xs (xs.length:Int) f) (k:Int)=some (if xs.all p=true then .inl () else .inr ((xs.findIdx (fun x=>!p x):Nat):Int)):=by
  intro n
  induction n with
  | zero =>
   intro k hk hp
   obtain rfl:k=xs.length:=by omega
   have:xs.all p=true:=List.all_eq_true.2 fun x hx=>by
    obtain ⟨i,hi,rfl⟩:=List.mem_iff_getElem.1 hx;exact hp i hi _ (List.getElem?_eq_getElem hi)
   rw [loopP_out (b:=.inl ()) (by simp only [m115_1b,(ltI_not _ _).2 (Int.le_refl _),br_false]),if_pos this]
  | succ n ih =>
   intro k hk hp
   have hl:k<xs.length:=by omega
   cases hq:p xs[k] with
   | true =>
    rw [loopP_nxt (s':=((k+1:Nat):Int)) (by simp only [m115_1b,(ltI_iff _ _).2 (Int.ofNat_lt.2 hl),br_true,idx_get hl,bnd_ok,hf,hq,Bool.not_true,br_false,wsucc hl (by omega)])]
    refine ih (k+1) (by omega) fun i hi x hx=>?_
    by_cases hik:i=k
    · subst hik;rw [List.getElem?_eq_getElem hl] at hx;cases hx;exact hq
    · exact hp i (by omega) x hx
   | false =>
    rw [loopP_out (b:=.inr (k:Int)) (by simp only [m115_1b,(ltI_iff _ _).2 (Int.ofNat_lt.2 hl),br_true,idx_get hl,bnd_ok,hf,hq,Bool.not_false,br_true])]
    have h1:¬xs.all p=true:=fun ha=>by have:=List.all_eq_true.1 ha _ (List.getElem_mem hl);rw [hq] at this;cases this
    have h2:xs.findIdx (fun x=>!p x)=k:=by
     refine (List.findIdx_eq hl).2 ⟨by simp [hq],fun j hj=>?_⟩
     have:=hp j hj _ (List.getElem?_eq_getElem (by omega))
     simp [this]
    rw [if_neg h1,h2]
 have:=key xs.length 0 (by omega) (fun i hi=>by omega)
 simp only [m115,Int.ofNat_zero] at this ⊢;rw [this,bnd_ok]
 split<;>rfl
theorem p98 (xs:List Int)(h:smLInt xs):m98 xs=some (leI (xs.length:Int) 10&&pathB xs):=by
 have hp:pathB xs=xs.all (fun x=>inB x 1 65535):=allN_list xs (fun x=>inB x 1 65535)
 simp only [m98,m98_1,m109,p115 xs h (fun y0=>m110 y0) (fun x=>inB x 1 65535) (fun x=>by simp only [m110,m66,p91,bnd_ok]),bnd_ok,hp]
 cases xs.all (fun x=>inB x 1 65535) with
 | true=>simp [leI]
 | false=>simp [leI]
theorem p77 (a:Attrs)(h:smAttrs a):m77 a=some (attrsB a):=by
 obtain ⟨_,h1,_,_,_,h5⟩:=h;simp only [m77,m77_1,p91,p98 _ h1,p101 _ h5,m99,m100,bnd_ok,attrsB,br_and]
 congr 1
 simp only [Bool.and_assoc]
 ac_rfl
def offerB (a:Offer):Bool:=inB a.peer 0 5&&attrsB a.attrs
theorem p50 (a:Offer)(h:smOffer a):m50 a=some (offerB a):=by
 simp only [m50,m50_1,m76,p91,p77 _ h.2,bnd_ok,br_and,offerB]
def cmpI (a b:Int):Int:=if a<b then -1 else if b<a then 1 else 0
def goodL (l:List Offer):Bool:=allN l.length (fun k=>match l[k]? with | some x=>offerB x&&!(ltI 0 k&&leI x.peer (l.getD (k-1) x).peer) | none=>false)
theorem p13_3 (l:List Offer)(k:Nat)(hk:k<l.length)(hl:l.length≤1048576)(h:smOffer l[k]):m13_3 l (k:Int) l[k]=some (!(offerB l[k]&&!(ltI 0 k&&leI l[k].peer (l.getD (k-1) l[k]).peer))):=by
 simp only [m13_3,p48,p49 _ h.2,bnd_ok,offerB]
 cases inB l[k].peer 0 5 with
 | false=>rfl
 | true =>
  cases attrsB l[k].attrs with
  | false=>rfl
  | true =>
   by_cases h0:0<k
   · have hp:k-1<l.length:=by omega
     simp [(ltI_iff 0 (k:Int)).2 (by omega),wpred hk h0 (by omega),idx_get hp,List.getElem?_eq_getElem hp]
   · obtain rfl:k=0:=by omega
     rfl
theorem p13L (l:List Offer)(hl:smLOffer l):m13 l=some (goodL l):=by
 have h1:=hl.1
 have e:loopP (m13_1b l (l.length:Int)) 0=some (if goodL l=true then .inl () else .inr ()):=by
  refine loop_all _ _ _ _ (fun k hk=>?_) ?_
  · simp only [m13_1b,(ltI_iff _ _).2 (Int.ofNat_lt.2 hk),br_true,idx_get hk,bnd_ok,p13_3 l k hk h1 (hl.2 _ (List.getElem_mem hk)),wsucc hk (by omega),List.getElem?_eq_getElem hk,br_some,if_true,ite_bnot]
  · simp only [m13_1b,(ltI_not _ _).2 (Int.le_refl _),br_false]
 simp only [m13,e,bnd_ok]
 cases goodL l<;>rfl
theorem p15_3 (l:List Offer)(k:Nat)(hk:k<l.length)(hl:l.length≤1048576)(h:smOffer l[k]):m15_3 l (k:Int) l[k]=some (!(offerB l[k]&&!(ltI 0 k&&leI l[k].peer (l.getD (k-1) l[k]).peer))):=by
 simp only [m15_3,p50 _ h,bnd_ok]
 cases offerB l[k] with
 | false=>rfl
 | true =>
  by_cases h0:0<k
  · have hp:k-1<l.length:=by omega
    simp [(ltI_iff 0 (k:Int)).2 (by omega),wpred hk h0 (by omega),idx_get hp,List.getElem?_eq_getElem hp]
  · obtain rfl:k=0:=by omega
    rfl
theorem p15L (l:List Offer)(hl:smLOffer l):m15 l=some (goodL l):=by
 have h1:=hl.1
 have e:loopP (m15_1b l (l.length:Int)) 0=some (if goodL l=true then .inl () else .inr ()):=by
  refine loop_all _ _ _ _ (fun k hk=>?_) ?_
  · simp only [m15_1b,(ltI_iff _ _).2 (Int.ofNat_lt.2 hk),br_true,idx_get hk,bnd_ok,p15_3 l k hk h1 (hl.2 _ (List.getElem_mem hk)),wsucc hk (by omega),List.getElem?_eq_getElem hk,br_some,if_true,ite_bnot]
  · simp only [m15_1b,(ltI_not _ _).2 (Int.le_refl _),br_false]
 simp only [m15,e,bnd_ok]
 cases goodL l<;>rfl
theorem goodL_srt {l:List Offer}(h:goodL l=true):∀i j (hj:j<l.length) (hij:i<j),(l[i]'(by omega)).peer<l[j].peer:=by
 have h:=allN_iff.1 h
 have one:∀k,(hk:k+1<l.length)→(l[k]'(by omega)).peer<l[k+1].peer:=by
  intro k hk;have:=h (k+1) hk;rw [List.getElem?_eq_getElem hk] at this;simp only [Bool.and_eq_true,Bool.not_eq_true',Bool.and_eq_false_iff] at this
  rcases this.2 with g|g
  · rw [ltI_not] at g;omega
  · rw [leI_not] at g
    rw [List.getD_eq_getElem?_getD,Nat.add_sub_cancel,List.getElem?_eq_getElem (by omega)] at g
    simp only [Option.getD_some] at g;omega
 intro i j
 induction j with
 | zero=>intro hj hij;omega
 | succ j ih =>
  intro hj hij;have h1:=one j hj
  by_cases c:i=j
  · subst c;exact h1
  · have:=ih (by omega) (by omega);omega
def At (l:List Offer)(n:Int)(i:Nat):Prop:=i≤l.length∧(∀k (hk:k<l.length),k<i→l[k].peer<n)∧(∀k (hk:k<l.length),i≤k→¬l[k].peer<n)
def OR (x:Offer)(k k':Int)(y:Offer):Prop :=
 y=⟨k,⟨k+1,ramp (k+2) x.attrs.path.length,k+2+x.attrs.path.length,k+3+x.attrs.path.length,k+4+x.attrs.path.length,ramp (k+5+x.attrs.path.length) x.attrs.comms.length⟩⟩∧k'=k+5+x.attrs.path.length+x.attrs.comms.length∧x.attrs.path.length≤1048576∧x.attrs.comms.length≤1048576
noncomputable def hb25 (a0:(List Offer))(p:(Int×Int)):Option (Ctl (Int×Int) (Int ⊕ Unit)) :=
 sel2 p fun s20 s21 =>
 br (ltI s21 (↑a0.length:Int)) (
  bnd (idx a0 s21) fun x23 =>
  br (eqI x23.peer s20) (
   br (eqI x23.attrs.origin (wadd .i64 s20 1)) (
    bnd (m35 x23.attrs.path (wadd .i64 (wadd .i64 s20 1) 1)) fun r32 =>
    br (ltI r32 0) (
     some (.out (.inr ()))) (
     br (eqI x23.attrs.next r32) (
      br (eqI x23.attrs.med (wadd .i64 r32 1)) (
       br (eqI x23.attrs.pref (wadd .i64 (wadd .i64 r32 1) 1)) (
        bnd (m35 x23.attrs.comms (wadd .i64 (wadd .i64 (wadd .i64 r32 1) 1) 1)) fun r39 =>
        br (ltI r39 0) (
         some (.out (.inr ()))) (
         some (.nxt (r39,wadd .i64 s21 1)))) (
        some (.out (.inr ())))) (
       some (.out (.inr ())))) (
      some (.out (.inr ()))))) (
    some (.out (.inr ())))) (
   some (.out (.inr ())))) (
  some (.out (.inl s20)))
theorem kOffers (l:List Offer)(k:Int)(hl:smLOffer l)(h0:0≤k)(h1:k≤1000):∃k' ys,m24 l k=some (k',ys)∧ys.length=l.length∧k≤k'∧k'≤2305843009213693952:=by
 obtain ⟨k',ys,e1,e2,e3,e4,e5⟩:=mark_rel (good:=smOffer) (W:=2097157) (B:=4611686018427387904) (by omega) OR
  (fun x k h h0 h1=>by
   have a1:x.attrs.path.length≤1048576:=h.2.2.1;have a2:x.attrs.comms.length≤1048576:=h.2.2.2.2.2.2
   exact ⟨_,_,⟨rfl,rfl,a1,a2⟩,by omega,by omega⟩) (body:=m24_1b) (fun i l k k' y h hl hr h0 h1=>by
   obtain ⟨rfl,rfl,a1,a2⟩:=hr
   have w1:wadd .i64 k 1=k+1:=wadd64 (by omega) (by omega)
   have w2:wadd .i64 (k+1) 1=k+2:=by rw [wadd64 (by omega) (by omega)];omega
   have w3:∀p:Nat,p≤1048576→wadd .i64 (k+2+p) 1=k+3+p:=fun p hp=>by rw [wadd64 (by omega) (by omega)];omega
   have w4:∀p:Nat,p≤1048576→wadd .i64 (k+3+p) 1=k+4+p:=fun p hp=>by rw [wadd64 (by omega) (by omega)];omega
   have w5:∀p:Nat,p≤1048576→wadd .i64 (k+4+p) 1=k+5+p:=fun p hp=>by rw [wadd64 (by omega) (by omega)];omega
   simp only [m24_1b,sel3_ok,(ltI_iff (i:Int) (l.length:Int)).2 (by omega),br_true,idx_get h,bnd_ok,w1,w2,k34 _ (k+2) a1 (by omega) (by omega),sel2_ok,ck_ok (ramp_length _ _),w3 _ a1,w4 _ a1,w5 _ a1,k34 _ (k+5+(l[i].attrs.path.length:Int)) a2 (by omega) (by omega),wsucc h (by omega),Int.toNat_natCast,List.set_set])
  (fun l k=>by simp only [m24_1b,sel3_ok,(ltI_not (l.length:Int) (l.length:Int)).2 (by omega),br_false])
  (hbody:=hb25) (fun l i k k' x h hl hr h0 h1=>by
   obtain ⟨hy,rfl,a1,a2⟩:=hr
   have w1:wadd .i64 k 1=k+1:=wadd64 (by omega) (by omega)
   have w2:wadd .i64 (k+1) 1=k+2:=by rw [wadd64 (by omega) (by omega)];omega
   have w3:wadd .i64 (k+2+(x.attrs.path.length:Int)) 1=k+3+x.attrs.path.length:=by rw [wadd64 (by omega) (by omega)];omega
   have w4:wadd .i64 (k+3+(x.attrs.path.length:Int)) 1=k+4+x.attrs.path.length:=by rw [wadd64 (by omega) (by omega)];omega
   have w5:wadd .i64 (k+4+(x.attrs.path.length:Int)) 1=k+5+x.attrs.path.length:=by rw [wadd64 (by omega) (by omega)];omega
   simp only [hb25,sel2_ok,(ltI_iff (i:Int) (l.length:Int)).2 (by omega),br_true,idx_get h,bnd_ok,hy,w1,w2,eqI_self,d35 _ (k+2) a1 (by omega) (by omega),(ltI_not (k+2+(x.attrs.path.length:Int)) 0).2 (by omega),br_false,w3,w4,w5,d35 _ (k+5+(x.attrs.path.length:Int)) a2 (by omega) (by omega),(ltI_not (k+5+(x.attrs.path.length:Int)+(x.attrs.comms.length:Int)) 0).2 (by omega),wsucc h (by omega)])
  (fun l k=>by simp only [hb25,sel2_ok,(ltI_not (l.length:Int) (l.length:Int)).2 (by omega),br_false])
  l k hl.1 hl.2 h0 (by have:=hl.1;have:(l.length:Int)*2097157≤1048576*2097157:=Int.mul_le_mul_of_nonneg_right (by omega) (by omega);omega)
 have:=hl.1
 have hb:(l.length:Int)*2097157≤1048576*2097157:=Int.mul_le_mul_of_nonneg_right (by omega) (by omega)
 exact ⟨k',ys,by unfold m24;rw [e1,bnd_ok,sel2_ok],e2,e3,by omega⟩
theorem mapO_all {α β:Type}{f:α→Option β}(g:α→β):∀ {l:List α},(∀a∈l,f a=some (g a))→mapO f l=some (l.map g):=by
 intro l
 induction l with
 | nil=>intro _;rfl
 | cons a l ih=>intro h;simp only [mapO,h a (by simp),ih fun b hb=>h b (by simp [hb]),List.map_cons]
theorem all_range_of {n:Nat}{p:Nat→Bool}(h:∀i,i<n→p i=true):(List.range n).all p=true:=List.all_eq_true.2 fun i hi=>h i (List.mem_range.1 hi)
theorem ordIdx_fin' (m:Nat)(lt:Nat→Nat→Bool):ordIdx (m+1) lt=((List.finRange (m+1)).mergeSort fun x y=>!lt y.val x.val).map Fin.val:=by
 unfold ordIdx
 have e:List.range (m+1)=(List.finRange (m+1)).map Fin.val:=by
  apply List.ext_getElem
  · simp
  · intro i h1 h2;simp
 rw [e]
 exact (List.map_mergeSort (f:=Fin.val) (r:=fun x y:Fin (m+1)=>!lt y.val x.val) (s:=fun i j=>!lt j i) (l:=List.finRange (m+1)) (fun a _ b _=>rfl)).symm
theorem srtP_ok {α:Type}[Inhabited α]{c:α→α→Option Int}(cf:α→α→Int)(xs:List α)(hc:∀a∈xs,∀b∈xs,c a b=some (cf a b))(h1:∀a,¬cf a a<0)(h2:∀a b d,cf a b<0→cf b d<0→cf a d<0)
    (h3:∀a∈xs,∀b∈xs,a≠b→cf a b<0∨cf b a<0) (hn:xs.Nodup) (hl:xs.length≤68719476736):∃ys,srtP c xs=some ys∧ys.Perm xs∧ys.Pairwise (fun a b=>cf a b<0):=by
 have ht:tabO c xs=some (xs.map fun a=>xs.map (cf a)):=mapO_all _ fun a ha=>mapO_all _ fun b hb=>hc a ha b hb
 have hlt:∀i j (hi:i<xs.length) (hj:j<xs.length),tabLt (xs.map fun a=>xs.map (cf a)) i j=decide (cf xs[i] xs[j]<0):=fun i j hi hj=>by
  simp [tabLt,List.getD_eq_getElem?_getD,hi,hj]
 have hne:∀i j (hi:i<xs.length) (hj:j<xs.length),i≠j→xs[i]≠xs[j]:=fun i j hi hj h e=>h ((List.getElem_inj hn).1 e)
 have tot:∀i j (hi:i<xs.length) (hj:j<xs.length),i≠j→cf xs[i] xs[j]<0∨cf xs[j] xs[i]<0:=fun i j hi hj h=>h3 _ (List.getElem_mem hi) _ (List.getElem_mem hj) (hne i j hi hj h)
 have hord:ordOk xs.length (tabLt (xs.map fun a=>xs.map (cf a)))=true:=by
  unfold ordOk
  refine all_range_of fun i hi=>?_
  simp only [Bool.and_eq_true,Bool.not_eq_true']
  refine ⟨by rw [hlt i i hi hi];exact decide_eq_false (h1 _),all_range_of fun j hj=>?_⟩
  simp only [Bool.and_eq_true,Bool.or_eq_true,beq_iff_eq]
  refine ⟨?_,all_range_of fun k hk=>?_⟩
  · by_cases e:i=j
    · exact .inl (.inl e)
    · rcases tot i j hi hj e with h|h
      · exact .inl (.inr (by rw [hlt i j hi hj];exact decide_eq_true h))
      · exact .inr (by rw [hlt j i hj hi];exact decide_eq_true h)
  · rw [hlt i j hi hj,hlt j k hj hk,hlt i k hi hk]
    by_cases a:cf xs[i] xs[j]<0
    · by_cases b:cf xs[j] xs[k]<0
      · simp [h2 _ _ _ a b]
      · simp [b]
    · simp [a]
 refine ⟨_,by unfold srtP;rw [ck_ok hl];unfold sortO;rw [ht];simp only;rw [if_pos hord],?_,?_⟩
 · have hp:(ordIdx xs.length (tabLt (xs.map fun a=>xs.map (cf a)))).Perm (List.range xs.length):=List.mergeSort_perm _ _
   refine (hp.map _).trans (List.Perm.of_eq ?_)
   apply List.ext_getElem
   · simp
   · intro i h1 h2
     simp [List.getD_eq_getElem?_getD,show i<xs.length by simpa using h1]
 · by_cases h0:xs.length=0
   · have:ordIdx xs.length (tabLt (xs.map fun a=>xs.map (cf a)))=[]:=by rw [h0];simp [ordIdx]
     rw [this];exact List.Pairwise.nil
   obtain ⟨m,hm⟩:∃m,xs.length=m+1:=⟨xs.length-1,by omega⟩
   rw [hm,ordIdx_fin',List.pairwise_map,List.pairwise_map]
   have hlt':∀x y:Fin (m+1),tabLt (xs.map fun a=>xs.map (cf a)) x.val y.val=decide (cf (xs[x.val]'(by omega)) (xs[y.val]'(by omega))<0):=fun x y=>hlt _ _ (by omega) (by omega)
   have tot':∀x y:Fin (m+1),x≠y→cf (xs[x.val]'(by omega)) (xs[y.val]'(by omega))<0∨cf (xs[y.val]'(by omega)) (xs[x.val]'(by omega))<0:=fun x y h=>tot _ _ (by omega) (by omega) fun e=>h (Fin.ext e)
   have hs := List.pairwise_mergeSort (le := fun x y : Fin (m + 1) => !tabLt (xs.map fun a => xs.map (cf a)) y.val x.val) (fun x y z a b => by
       simp only [hlt',Bool.not_eq_true',decide_eq_false_iff_not] at a b ⊢;intro hc
       by_cases e:x=y
       · subst e;exact b hc
       · rcases tot' x y e with k|k
         · exact b (h2 _ _ _ hc k)
         · exact a k) (fun x y=>by
       simp only [hlt',Bool.or_eq_true,Bool.not_eq_true',decide_eq_false_iff_not]
       by_cases a:cf (xs[y.val]'(by omega)) (xs[x.val]'(by omega))<0
       · right;intro b;exact h1 _ (h2 _ _ _ a b)
       · left;exact a) (List.finRange (m+1))
   have hnd:((List.finRange (m+1)).mergeSort fun x y=>!tabLt (xs.map fun a=>xs.map (cf a)) y.val x.val).Nodup:=(List.mergeSort_perm _ _).nodup_iff.2 (List.nodup_finRange _)
   refine (hs.and hnd).imp ?_
   rintro x y ⟨a,b⟩
   simp only [hlt',Bool.not_eq_true',decide_eq_false_iff_not] at a
   have ex:xs.getD x.val default=xs[x.val]'(by omega):=by simp [List.getD_eq_getElem?_getD,show x.val<xs.length by omega]
   have ey:xs.getD y.val default=xs[y.val]'(by omega):=by simp [List.getD_eq_getElem?_getD,show y.val<xs.length by omega]
   rw [ex,ey]
   rcases tot' x y b with k|k
   · exact k
   · exact absurd k a
def lx (x y r:Int):Int:=if x<y then -1 else if y<x then 1 else r
theorem lx_neg (x y r:Int):lx x y r<0↔x<y∨(x=y∧r<0):=by
 unfold lx;split
 · simp_all
 · split<;>omega
theorem lx_cmp (x y r:Int):(if cmpI x y=0 then r else cmpI x y)=lx x y r:=by
 unfold lx cmpI
 by_cases h:x<y
 · simp [h]
 · by_cases g:y<x<;>simp [h,g]
theorem lx_trans {x y z r s t:Int}(h:r<0→s<0→t<0)(h1:lx x y r<0)(h2:lx y z s<0):lx x z t<0:=by
 rw [lx_neg] at *;omega
theorem lx_tot {x y r s:Int}(h:r<0∨s<0):lx x y r<0∨lx y x s<0:=by
 simp only [lx_neg];omega
theorem lx_irr {x r:Int}(h:¬r<0):¬lx x x r<0:=by
 rw [lx_neg];omega
def lexI (a b:Offer):Int:=lx b.attrs.pref a.attrs.pref (lx (a.attrs.path.length:Int) (b.attrs.path.length:Int) (lx a.attrs.origin b.attrs.origin (lx a.attrs.med b.attrs.med (lx a.attrs.next b.attrs.next (cmpI a.peer b.peer)))))
theorem cmpI_neg (x y:Int):cmpI x y<0↔x<y:=by
 unfold cmpI;split
 · simp_all
 · split<;>omega
theorem lexI_irr (a:Offer):¬lexI a a<0:=lx_irr (lx_irr (lx_irr (lx_irr (lx_irr (by rw [cmpI_neg];omega)))))
theorem lexI_trans (a b d:Offer):lexI a b<0→lexI b d<0→lexI a d<0:=by
 intro h1 h2;unfold lexI at *;rw [lx_neg] at *
 rcases h1 with h1|⟨e1,h1⟩
 · rcases h2 with h2|⟨e2,h2⟩
   · exact .inl (by omega)
   · exact .inl (by omega)
 · rcases h2 with h2|⟨e2,h2⟩
   · exact .inl (by omega)
   · exact .inr ⟨by omega,lx_trans (lx_trans (lx_trans (lx_trans (by simp only [cmpI_neg];omega)))) h1 h2⟩
theorem lexI_tot (a b:Offer)(h:a.peer≠b.peer):lexI a b<0∨lexI b a<0:=by
 unfold lexI
 exact lx_tot (lx_tot (lx_tot (lx_tot (lx_tot (by simp only [cmpI_neg];omega)))))
theorem lexI_self (a:Offer):lexI a a=0:=by simp [lexI,lx,cmpI]
theorem p79 (a b:Int):m79 a b=some (cmpI a b):=by
 unfold m79 cmpI
 by_cases h1:a<b
 · rw [(ltI_iff _ _).2 h1,if_pos h1];rfl
 · rw [(ltI_not _ _).2 (by omega),if_neg h1,br_false,br_some];simp only [ltI_iff]
theorem p82' (a b:Int):m82 a b=some (cmpI a b):=by
 have:=p79 a b;unfold m79 at this;simp only [m82,m102,eqI_self,bnd_ok,Bool.not_true,br_false];exact this
theorem p81 (r0 r1 r2 r3 r4 r5:Int):m81 [r0,r1,r2,r3,r4,r5]=some (if r0=0 then if r1=0 then if r2=0 then if r3=0 then if r4=0 then r5 else r4 else r3 else r2 else r1 else r0):=by
 have l2:loopP (m81_1b [r0,r1,r2,r3,r4,r5] (([r0,r1,r2,r3,r4,r5]:List Int).length:Int)) 0=some (([r0,r1,r2,r3,r4,r5].findSome? (fun x=>if x=0 then none else some (.inr x:Unit ⊕ Int))).getD (.inl ())):=by
  refine loop_find _ _ _ (fun k hk=>?_) rfl
  have hk5:k<6:=hk
  simp only [m81_1b,(ltI_iff _ _).2 (Int.ofNat_lt.2 hk),br_true,idx_get hk,bnd_ok,wsucc hk5 (by omega)]
  by_cases h0:[r0,r1,r2,r3,r4,r5][k]=0
  · rw [if_pos h0,h0];rfl
  · rw [if_neg h0,(eqI_not _ _).2 h0];rfl
 unfold m81;rw [l2];simp only [List.findSome?_cons,List.findSome?_nil,bnd_ok]
 by_cases h0:r0=0
 · by_cases h1:r1=0
   · by_cases h2:r2=0
     · by_cases h3:r3=0
       · by_cases h4:r4=0
         · by_cases h5:r5=0<;>simp [h0,h1,h2,h3,h4,h5]
         · simp [h0,h1,h2,h3,h4]
       · simp [h0,h1,h2,h3]
     · simp [h0,h1,h2]
   · simp [h0,h1]
 · simp [h0]
theorem p54 (a b:Offer)(h:a.peer=b.peer→a=b):m54 a b=some (lexI a b):=by
 unfold m54
 by_cases e:a.peer=b.peer
 · obtain rfl:=h e;rw [eqI_self,br_true,lexI_self]
 · rw [(eqI_not _ _).2 e,br_false];simp only [p82',bnd_ok,p81,lx_cmp,lexI]
theorem p52 (a b:Offer)(h:a.peer=b.peer→a=b):m52 a b=some (lexI a b):=by
 unfold m52
 by_cases e:a.peer=b.peer
 · obtain rfl:=h e;rw [eqI_self,br_true,lexI_self]
 · rw [(eqI_not _ _).2 e,br_false];simp only [p79,bnd_ok,lexI,←lx_cmp];generalize cmpI b.attrs.pref a.attrs.pref=r0;generalize cmpI (a.attrs.path.length:Int) (b.attrs.path.length:Int)=r1;generalize cmpI a.attrs.origin b.attrs.origin=r2;generalize cmpI a.attrs.med b.attrs.med=r3;generalize cmpI a.attrs.next b.attrs.next=r4
   have l1:loopP (m52_1b [r0,r1,r2,r3,r4]) 0=some (([r0,r1,r2,r3,r4].findSome? (fun x=>if x=0 then none else some (.inr x:Unit ⊕ Int))).getD (.inl ())):=by
    refine loop_find _ _ _ (fun k hk=>?_) rfl
    have hk5:k<5:=hk
    simp only [m52_1b,(ltI_iff (k:Int) 5).2 (by omega),br_true,idx_get hk,bnd_ok,wsucc hk5 (by omega)]
    by_cases h0:[r0,r1,r2,r3,r4][k]=0
    · rw [if_pos h0,h0];rfl
    · rw [if_neg h0,(eqI_not _ _).2 h0];rfl
   rw [l1];simp only [List.findSome?_cons,List.findSome?_nil,bnd_ok]
   by_cases h0:r0=0
   · by_cases h1:r1=0
     · by_cases h2:r2=0
       · by_cases h3:r3=0
         · by_cases h4:r4=0
           · simp [h0,h1,h2,h3,h4]
           · simp [h0,h1,h2,h3,h4]
         · simp [h0,h1,h2,h3]
       · simp [h0,h1,h2]
     · simp [h0,h1]
   · simp [h0]
def Apart (l:List Offer):Prop:=∀i j (hi:i<l.length) (hj:j<l.length),l[i].peer=l[j].peer→i=j
theorem Apart.eq {l:List Offer}(h:Apart l):∀a∈l,∀b∈l,a.peer=b.peer→a=b:=by
 intro a ha b hb e;obtain ⟨i,hi,rfl⟩:=List.mem_iff_getElem.1 ha;obtain ⟨j,hj,rfl⟩:=List.mem_iff_getElem.1 hb;have:=h i j hi hj e;subst this;rfl
theorem Apart.nodup {l:List Offer}(h:Apart l):l.Nodup:=by
 refine List.pairwise_iff_getElem.2 fun i j hi hj hij e=>?_
 have:=h i j hi hj (by rw [e])
 omega
theorem goodL_apart {l:List Offer}(h:goodL l=true):Apart l:=by
 intro i j hi hj e
 rcases Nat.lt_trichotomy i j with c|c|c
 · have:=goodL_srt h i j hj c;omega
 · exact c
 · have:=goodL_srt h j i hi c;omega
def BestAt (l:List Offer)(i:Nat):Prop:=∃h:i<l.length,∀j (hj:j<l.length),j≠i→lexI l[i] l[j]<0
theorem p63 (l:List Offer)(hl:l.length≤1048576)(hd:Apart l):(l=[]∧m63 l=some (-1))∨∃i,BestAt l i∧m63 l=some (i:Int):=by
 have key : ∀ (n k : Nat) (b : Int), n + k = l.length → ((k = 0 ∧ b = -1) ∨ ∃ i : Nat, b = (i : Int) ∧ ∃ h : i < k, ∀ j (hj : j < l.length), j < k → j ≠ i → ∀ hi : i < l.length, lexI l[i] l[j] < 0) →
     ∃b':Int,loopP (m63_1b l (l.length:Int)) (b,(k:Int))=some b'∧((l.length=0∧b'=-1)∨∃i:Nat,b'=(i:Int)∧∃h:i<l.length,∀j (hj:j<l.length),j≠i→lexI l[i] l[j]<0):=by
  intro n
  induction n with
  | zero =>
   intro k b hk hb
   obtain rfl:k=l.length:=by omega
   refine ⟨b,loopP_out (by simp only [m63_1b,sel2_ok,(ltI_not _ _).2 (Int.le_refl _),br_false]),?_⟩
   rcases hb with ⟨h0,rfl⟩|⟨i,rfl,h,hi⟩
   · exact .inl ⟨h0,rfl⟩
   · exact .inr ⟨i,rfl,h,fun j hj hne=>hi j hj hj hne h⟩
  | succ n ih =>
   intro k b hk hb
   have hkl:k<l.length:=by omega
   rcases hb with ⟨rfl,rfl⟩|⟨i,rfl,hik,hi⟩
   · rw [loopP_nxt (s' := (((0 : Nat) : Int), ((0 + 1 : Nat) : Int))) (by
       simp only [m63_1b,sel2_ok,(ltI_iff _ _).2 (Int.ofNat_lt.2 hkl),br_true,idx_get hkl,bnd_ok,m63_4,m63_5,wsucc hkl (by omega)]
       rfl)]
     refine ih (0+1) _ (by omega) (.inr ⟨0,rfl,by omega,fun j hj h1 h2 _=>by omega⟩)
   · have hil:i<l.length:=by omega
     have hc:m52 l[k] l[i]=some (lexI l[k] l[i]):=p52 _ _ (fun e=>by have:=hd k i hkl hil e;omega)
     have h4:m63_4 l (i:Int) l[k]=some (ltI (lexI l[k] l[i]) 0):=by
      simp only [m63_4,(ltI_not (i:Int) 0).2 (by omega),br_false,idx_get hil,bnd_ok,hc]
     by_cases c:lexI l[k] l[i]<0
     · rw [loopP_nxt (s' := ((k : Int), ((k + 1 : Nat) : Int))) (by
         simp only [m63_1b,sel2_ok,(ltI_iff _ _).2 (Int.ofNat_lt.2 hkl),br_true,idx_get hkl,bnd_ok,h4,(ltI_iff _ _).2 c,m63_5,wsucc hkl (by omega)])]
       refine ih (k+1) _ (by omega) (.inr ⟨k,rfl,by omega,fun j hj h1 h2 _=>?_⟩)
       by_cases hji:j=i
       · subst hji;exact c
       · exact lexI_trans _ _ _ c (hi j hj (by omega) hji hil)
     · rw [loopP_nxt (s' := ((i : Int), ((k + 1 : Nat) : Int))) (by
         simp only [m63_1b,sel2_ok,(ltI_iff _ _).2 (Int.ofNat_lt.2 hkl),br_true,br_false,idx_get hkl,bnd_ok,h4,(ltI_not _ _).2 (Int.not_lt.1 c),m63_5,wsucc hkl (by omega)])]
       refine ih (k+1) _ (by omega) (.inr ⟨i,rfl,by omega,fun j hj h1 h2 _=>?_⟩)
       by_cases hjk:j=k
       · subst hjk
         rcases lexI_tot l[j] l[i] (fun e=>by have:=hd j i hkl hil e;omega) with g|g
         · exact absurd g c
         · exact g
       · exact hi j hj (by omega) h2 hil
 obtain ⟨b',h1,h2⟩:=key l.length 0 (-1) (by omega) (.inl ⟨rfl,rfl⟩)
 have hm:m63 l=some b':=by simp only [m63,Int.ofNat_zero] at h1 ⊢;rw [h1];rfl
 rcases h2 with ⟨h0,rfl⟩|⟨i,rfl,h,hi⟩
 · exact .inl ⟨List.eq_nil_of_length_eq_zero h0,hm⟩
 · exact .inr ⟨i,⟨h,hi⟩,hm⟩
def Ranked (l ys:List Offer):Prop:=ys.Perm l∧ys.Pairwise (fun a b=>lexI a b<0)
theorem p89 (l:List Offer)(hl:l.length≤1048576)(hd:Apart l):∃ys,m89 l=some ys∧Ranked l ys:=by
 obtain ⟨ys,h1,h2,h3⟩:=srtP_ok (c:=m54) lexI l (fun a ha b hb=>p54 a b (hd.eq a ha b hb)) lexI_irr lexI_trans (fun a ha b hb hne=>lexI_tot a b (fun e=>hne (hd.eq a ha b hb e))) hd.nodup (by omega)
 exact ⟨ys,by simp only [m89,ck_ok (show l.length≤68719476736 by omega),h1,bnd_ok],h2,h3⟩
theorem p64 (l:List Offer)(hl:l.length≤1048576)(hd:Apart l):∃ys,m64 l=some (ys.map (·.peer))∧Ranked l ys:=by
 obtain ⟨ys,h1,hr⟩:=p89 l hl hd
 have hy:ys.length≤1048576:=by rw [hr.1.length_eq];exact hl
 refine ⟨ys,?_,hr⟩
 have key:∀(n k:Nat),n+k=ys.length→loopP (m64_1b ys (ys.length:Int)) ((k:Int),(ys.take k).map (·.peer))=some (ys.map (·.peer)):=by
  intro n
  induction n with
  | zero =>
   intro k hk
   obtain rfl:k=ys.length:=by omega
   rw [loopP_out (b:=(ys.take ys.length).map (·.peer)) (by simp only [m64_1b,sel2_ok,(ltI_not _ _).2 (Int.le_refl _),br_false])]
   simp
  | succ n ih =>
   intro k hk
   have hkl:k<ys.length:=by omega
   rw [loopP_nxt (s':=(((k+1:Nat):Int),(ys.take (k+1)).map (·.peer))) (by
    have hle:((ys.take k).map (·.peer)).length+1≤68719476736:=by simp;omega
    simp only [m64_1b,sel2_ok,(ltI_iff _ _).2 (Int.ofNat_lt.2 hkl),br_true,idx_get hkl,bnd_ok,ck_ok hle,wsucc hkl (by omega)]
    rw [List.take_succ_eq_append_getElem hkl,List.map_append];rfl)]
   exact ih (k+1) (by omega)
 have:=key ys.length 0 (by omega)
 simp only [m64,h1,bnd_ok];simp only [Int.ofNat_zero,List.take_zero,List.map_nil] at this;rw [this];rfl
theorem ranked_head {l ys:List Offer}(hr:Ranked l ys){i:Nat}(hb:BestAt l i):∃y ys',ys=y::ys'∧y=l[i]'hb.1:=by
 obtain ⟨hil,hb⟩:=hb;have hm:l[i]∈ys:=hr.1.mem_iff.2 (List.getElem_mem hil)
 cases ys with
 | nil=>cases hm
 | cons y ys' =>
  refine ⟨y,ys',rfl,?_⟩
  rcases List.mem_cons.1 hm with e|e
  · exact e.symm
  · have h1:=(List.pairwise_cons.1 hr.2).1 _ e;have hy:y∈l:=hr.1.mem_iff.1 (List.mem_cons_self ..);obtain ⟨j,hj,rfl⟩:=List.mem_iff_getElem.1 hy
    by_cases hji:j=i
    · subst hji;rfl
    · exact absurd (lexI_trans _ _ _ h1 (hb j hj hji)) (lexI_irr _)
theorem Apart.sub {l l':List Offer}(h:Apart l)(hs:l'.Sublist l):Apart l':=by
 have h1:l.Pairwise (fun a b=>a.peer≠b.peer):=List.pairwise_iff_getElem.2 fun i j hi hj hij e=>by have:=h i j hi hj e;omega
 have h2:=List.pairwise_iff_getElem.1 (h1.sublist hs);intro i j hi hj e
 rcases Nat.lt_trichotomy i j with c|c|c
 · exact absurd e (h2 i j hi hj c)
 · exact c
 · exact absurd e.symm (h2 j i hj hi c)
theorem rank31:∀(ys l:List Offer) (acc:List Int),Ranked l ys→Apart l→l.length+acc.length≤1048576→loopP m31_1b (l,acc)=some (acc++ys.map (·.peer)):=by
 intro ys
 induction ys with
 | nil =>
  intro l acc hr hd hl;have:l=[]:=List.nil_perm.1 hr.1;subst this
  rw [loopP_out (b:=acc) (by simp only [m31_1b,sel2_ok];rfl)]
  simp
 | cons y ys ih =>
  intro l acc hr hd hl
  have hpos:0<l.length:=by rw [←hr.1.length_eq];simp
  rcases p63 l (by omega) hd with ⟨h0,_⟩|⟨i,hb,hm⟩
  · subst h0;simp at hpos
  obtain ⟨y',ys',he,hy⟩:=ranked_head hr hb;cases he;have hil:=hb.1
  have hdt:(l.drop (i+1)).take (l.length-(i+1))=l.drop (i+1):=List.take_of_length_le (by simp)
  have hl':l.take i++l.drop (i+1)=l.eraseIdx i:=(List.eraseIdx_eq_take_drop_succ l i).symm
  have hpm:(l[i]::l.eraseIdx i).Perm l:=by
   have e:l=l.take i++l[i]::l.drop (i+1):=by rw [←List.drop_eq_getElem_cons hil,List.take_append_drop]
   rw [←hl'];exact (List.perm_middle.symm).trans (List.Perm.of_eq e.symm)
  have hp:ys.Perm (l.eraseIdx i):=by
   have h1:(y::ys).Perm (l[i]::l.eraseIdx i):=hr.1.trans hpm.symm;rw [hy] at h1;exact h1.cons_inv
  have hlen:(l.eraseIdx i).length+1=l.length:=by rw [List.length_eraseIdx];simp [hil];omega
  have w1:wadd .i64 (i:Int) 1=((i+1:Nat):Int):=wsucc hil (by omega)
  rw [loopP_nxt (s':=(l.eraseIdx i,acc++[y.peer])) (by
   have c1:acc.length+1≤68719476736:=by omega
   have c2:(0:Int)≤(i:Int)∧(i:Int)≤(l.length:Int):=by omega
   have c3:0+(l.take i).length≤68719476736:=by simp;omega
   have c4:(0:Int)≤((i+1:Nat):Int)∧((i+1:Nat):Int)≤(l.length:Int):=by omega
   have c5:(l.take i).length+(l.drop (i+1)).length≤68719476736:=by simp;omega
   simp only [m31_1b,sel2_ok,(ltI_iff 0 (l.length:Int)).2 (by omega),br_true,hm,bnd_ok,idx_get hil,ck_ok c1,ck_ok c2,Int.toNat_natCast,ck_ok c3,w1,ck_ok c4,hdt,ck_ok c5,hl',hy])]
  rw [ih (l.eraseIdx i) (acc++[y.peer]) ⟨hp,(List.pairwise_cons.1 hr.2).2⟩ (hd.sub (List.eraseIdx_sublist ..)) (by simp;omega)]
  simp
theorem rank_same (l:List Offer)(hl:smLOffer l):∃(r:List Int) (b:Bool),m31 l=some (r,b)∧m32 l=some (r,b)∧r.length≤1048576:=by
 have h1:=hl.1
 cases hg:goodL l with
 | false =>
  refine ⟨[],false,?_,?_,by simp⟩
  · simp only [m31,p13L l hl,hg,bnd_ok,br_false]
  · simp only [m32,p15L l hl,hg,bnd_ok,br_false]
 | true =>
  have hd:=goodL_apart hg;obtain ⟨ys,h3,hr⟩:=p64 l h1 hd;have hlen:=hr.1.length_eq
  refine ⟨ys.map (·.peer),true,?_,?_,by simp;omega⟩
  · have h4:=rank31 ys l [] hr hd (by simp;omega)
    have c0:0+l.length≤68719476736:=by omega
    simp only [m31,p13L l hl,hg,bnd_ok,br_true,ck_ok c0,h4,List.nil_append]
  · simp only [m32,p15L l hl,hg,bnd_ok,br_true,h3]
theorem law (l:List Offer)(hl:wfLOffer l):m8 l=some true:=by
 obtain ⟨v0,e0,l0,u0,s0⟩:=z12 l 1048576 hl (by omega) (by omega)
 unfold m8;rw [e0,bnd_ok]
 by_cases c0:v0<0
 · rw [(ltI_iff _ _).2 c0];rfl
 rw [(ltI_not _ _).2 (by omega),br_false]
 have sa:=s0 (by omega)
 obtain ⟨x,y,h1,h2,hx⟩:=rank_same l sa
 obtain ⟨k',zs,g1,g2,g3,g4⟩:=kOffers l 1 sa (by omega) (by omega)
 have q:m33 x x=some true:=q33 x hx
 have k1:=k34 x 1 hx (by omega) (by omega)
 have d1:=d35 x.length 1 hx (by omega) (by omega)
 simp only [t14 l sa,bnd_ok,h1,h2,sel2_ok,m8_1,m8_2,m8_3,q,eqB_self,br_true,Bool.not_true,br_false,q16 l sa,g1,ck_ok g2,(ltI_not k' 0).2 (by omega),k1,ck_ok (ramp_length _ _),d1,(ltI_not (1+(x.length:Int)) 0).2 (by omega),eqI_self]
end Go.Pi.Ytlcanbihlfncoaa.RankOffers
