/- no condition -/
import Derived.Test.YtlcanbihlfncoaaPiD
set_option linter.all false
namespace Go.Pi.Ytlcanbihlfncoaa.RankOffers
open Go Go.Pi
set_option maxRecDepth 100000
set_option linter.all false
def wfInt (x:Int):Prop:=-9223372036854775808≤x∧x≤9223372036854775807
def wfLInt (x:(List Int)):Prop:=x.length≤9223372036854775807∧∀y∈x,wfInt y
structure Attrs where
 origin:Int
 path:(List Int)
 next:Int
 med:Int
 pref:Int
 comms:(List Int)
 deriving Inhabited,DecidableEq
def wfAttrs (x:Attrs):Prop:=wfInt x.origin∧wfLInt x.path∧wfInt x.next∧wfInt x.med∧wfInt x.pref∧wfLInt x.comms
structure Offer where
 peer:Int
 attrs:Attrs
 deriving Inhabited,DecidableEq
def wfOffer (x:Offer):Prop:=wfInt x.peer∧wfAttrs x.attrs
def wfLOffer (x:(List Offer)):Prop:=x.length≤9223372036854775807∧∀y∈x,wfOffer y
def wfBool (x:Bool):Prop:=True
noncomputable def m78 (a0:(List Int))(a1:Int):Option Int :=
 br (ltI (wsub .i64 a1 (↑a0.length:Int)) 0) (
  some (-1)) (
  some (wsub .i64 a1 (↑a0.length:Int)))
noncomputable def m51 (a0:Attrs)(a1:Int):Option Int :=
 bnd (m78 a0.path a1) fun r3 =>
 br (ltI r3 0) (
  some (-1)) (
  bnd (m78 a0.comms r3) fun r7 =>
  br (ltI r7 0) (
   some (-1)) (
   some r7))
noncomputable def m17 (a0:Offer)(a1:Int):Option Int :=
 bnd (m51 a0.attrs a1) fun r3 =>
 br (ltI r3 0) (
  some (-1)) (
  some r3)
noncomputable def m12_1b (a0:(List Offer))(p:(Int×Int)):Option (Ctl (Int×Int) (Int ⊕ Unit)) :=
 sel2 p fun s13 s14 =>
 br (ltI s14 (↑a0.length:Int)) (
  bnd (idx a0 s14) fun x16 =>
  bnd (m17 x16 s13) fun r23 =>
  br (ltI r23 0) (
   some (.out (.inr ()))) (
   some (.nxt (r23,wadd .i64 s14 1)))) (
  some (.out (.inl s13)))
noncomputable def m12 (a0:(List Offer))(a1:Int):Option Int :=
 br (ltI (wsub .i64 a1 (↑a0.length:Int)) 0) (
  some (-1)) (
  bnd (loopP (m12_1b a0) (wsub .i64 a1 (↑a0.length:Int),0)) fun o=>selS o (fun v27 =>
   some v27) (fun _ =>
   some (-1)))
noncomputable def m80_1b (a0:(List Int))(p:(Int×List Int)):Option (Ctl (Int×List Int) (List Int)) :=
 sel2 p fun s14 s15 =>
 br (ltI s14 (↑a0.length:Int)) (
  bnd (idx a0 s14) fun x17 =>
  bnd (idx s15 s14) fun x22 =>
  some (.nxt (wadd .i64 s14 1,s15.set s14.toNat x17))) (
  some (.out s15))
noncomputable def m80 (a0:(List Int)):Option (List Int) :=
 ck (0≤(↑a0.length:Int)∧(↑a0.length:Int)≤(↑a0.length:Int)∧(↑a0.length:Int)≤68719476736) <|
 bnd (loopP (m80_1b a0) (0,List.replicate a0.length 0)) fun v29 =>
 some v29
noncomputable def m53 (a0:Attrs):Option Attrs :=
 bnd (m80 a0.path) fun r3 =>
 bnd (m80 a0.comms) fun r6 =>
 some (⟨a0.origin,r3,a0.next,a0.med,a0.pref,r6⟩:Attrs)
noncomputable def m19 (a0:Offer):Option Offer :=
 bnd (m53 a0.attrs) fun r3 =>
 some (⟨a0.peer,r3⟩:Offer)
noncomputable def m14_1b (a0:(List Offer))(p:(Int×List Offer)):Option (Ctl (Int×List Offer) (List Offer)) :=
 sel2 p fun s17 s18 =>
 br (ltI s17 (↑a0.length:Int)) (
  bnd (idx a0 s17) fun x20 =>
  bnd (m19 x20) fun r27 =>
  bnd (idx s18 s17) fun x28 =>
  some (.nxt (wadd .i64 s17 1,s18.set s17.toNat r27))) (
  some (.out s18))
noncomputable def m14 (a0:(List Offer)):Option (List Offer) :=
 ck (0≤(↑a0.length:Int)∧(↑a0.length:Int)≤(↑a0.length:Int)∧(↑a0.length:Int)≤68719476736) <|
 bnd (loopP (m14_1b a0) (0,List.replicate a0.length (⟨0,(⟨0,[],0,0,0,[]⟩:Attrs)⟩:Offer))) fun v35 =>
 some v35
noncomputable def m48_1 (a0:Int)(a1:Int)(a2:Int):Option Bool :=
 br (leI a1 a0) (
  some (leI a0 a2)) (
  some false)
noncomputable def m48 (a0:Int)(a1:Int)(a2:Int):Option Bool :=
 bnd (m48_1 a0 a1 a2) fun v4 =>
 some v4
noncomputable def m75 (a0:Int):Option Bool :=
 bnd (m48 a0 0 4294967295) fun r3 =>
 some r3
noncomputable def m49_1b (a0:Attrs)(p1:Int)(s12:Int):Option (Ctl Int (Unit ⊕ Unit)) :=
 br (ltI s12 p1) (
  bnd (idx a0.path s12) fun x14 =>
  bnd (m48 x14 1 65535) fun r21 =>
  br r21 (
   some (.nxt (wadd .i64 s12 1))) (
   some (.out (.inr ())))) (
  some (.out (.inl ())))
noncomputable def m49_4 (s46:Int)(x48:Int)(a0:Attrs):Option Bool :=
 bnd (m48 x48 0 1000000) fun r55 =>
 br r55 (
  br (ltI 0 s46) (
   bnd (idx a0.comms (wsub .i64 s46 1)) fun x58 =>
   some (leI x48 x58)) (
   some false)) (
  some true)
noncomputable def m49_2b (a0:Attrs)(p25:Int)(s46:Int):Option (Ctl Int (Unit ⊕ Unit)) :=
 br (ltI s46 p25) (
  bnd (idx a0.comms s46) fun x48 =>
  bnd (m49_4 s46 x48 a0) fun v65 =>
  br v65 (
   some (.out (.inr ()))) (
   some (.nxt (wadd .i64 s46 1)))) (
  some (.out (.inl ())))
noncomputable def m49_5 (a0:Attrs):Option Bool :=
 bnd (m48 a0.origin 0 2) fun r71 =>
 br r71 (
  br (leI (↑a0.path.length:Int) 10) (
   bnd (m75 a0.next) fun r76 =>
   br r76 (
    bnd (m48 a0.med 0 1000000) fun r80 =>
    br r80 (
     bnd (m48 a0.pref 0 1000000) fun r84 =>
     br r84 (
      some (leI (↑a0.comms.length:Int) 6)) (
      some false)) (
     some false)) (
    some false)) (
   some false)) (
  some false)
noncomputable def m49 (a0:Attrs):Option Bool :=
 bnd (loopP (m49_1b a0 (↑a0.path.length:Int)) 0) fun o=>selS o (fun _ =>
  bnd (loopP (m49_2b a0 (↑a0.comms.length:Int)) 0) fun o=>selS o (fun _ =>
   bnd (m49_5 a0) fun v88 =>
   some v88) (fun _ =>
   some false)) (fun _ =>
  some false)
noncomputable def m13_3 (a0:(List Offer))(s26:Int)(x28:Offer):Option Bool :=
 bnd (m48 x28.peer 0 5) fun r35 =>
 br r35 (
  bnd (m49 x28.attrs) fun r39 =>
  br r39 (
   br (ltI 0 s26) (
    bnd (idx a0 (wsub .i64 s26 1)) fun x42 =>
    some (leI x28.peer x42.peer)) (
    some false)) (
   some true)) (
  some true)
noncomputable def m13_1b (a0:(List Offer))(p1:Int)(s26:Int):Option (Ctl Int (Unit ⊕ Unit)) :=
 br (ltI s26 p1) (
  bnd (idx a0 s26) fun x28 =>
  bnd (m13_3 a0 s26 x28) fun v49 =>
  br v49 (
   some (.out (.inr ()))) (
   some (.nxt (wadd .i64 s26 1)))) (
  some (.out (.inl ())))
noncomputable def m13 (a0:(List Offer)):Option Bool :=
 bnd (loopP (m13_1b a0 (↑a0.length:Int)) 0) fun o=>selS o (fun _ =>
  some true) (fun _ =>
  some false)
noncomputable def m79 (a0:Int)(a1:Int):Option Int :=
 br (ltI a0 a1) (
  some (-1)) (
  br (ltI a1 a0) (
   some 1) (
   some 0))
noncomputable def m52_1b (p17:List Int)(s25:Int):Option (Ctl Int (Unit ⊕ Int)) :=
 br (ltI s25 5) (
  bnd (idx p17 s25) fun x27 =>
  br (eqI x27 0) (
   some (.nxt (wadd .i64 s25 1))) (
   some (.out (.inr x27)))) (
  some (.out (.inl ())))
noncomputable def m52 (a0:Offer)(a1:Offer):Option Int :=
 br (eqI a0.peer a1.peer) (
  some 0) (
  bnd (m79 a1.attrs.pref a0.attrs.pref) fun r4 =>
  bnd (m79 (↑a0.attrs.path.length:Int) (↑a1.attrs.path.length:Int)) fun r7 =>
  bnd (m79 a0.attrs.origin a1.attrs.origin) fun r10 =>
  bnd (m79 a0.attrs.med a1.attrs.med) fun r13 =>
  bnd (m79 a0.attrs.next a1.attrs.next) fun r16 =>
  bnd (loopP (m52_1b [r4,r7,r10,r13,r16]) 0) fun o=>selS o (fun _ =>
   bnd (m79 a0.peer a1.peer) fun r37 =>
   some r37) (fun v38 =>
   some v38))
noncomputable def m63_4 (a0:(List Offer))(s24:Int)(x27:Offer):Option Bool :=
 br (ltI s24 0) (
  some true) (
  bnd (idx a0 s24) fun x33 =>
  bnd (m52 x27 x33) fun r40 =>
  some (ltI r40 0))
noncomputable def m63_5 (s24:Int)(s25:Int)(v43:Bool):Option Int :=
 br v43 (
  some s25) (
  some s24)
noncomputable def m63_1b (a0:(List Offer))(p1:Int)(p:(Int×Int)):Option (Ctl (Int×Int) Int) :=
 sel2 p fun s24 s25 =>
 br (ltI s25 p1) (
  bnd (idx a0 s25) fun x27 =>
  bnd (m63_4 a0 s24 x27) fun v43 =>
  bnd (m63_5 s24 s25 v43) fun v47 =>
  some (.nxt (v47,wadd .i64 s25 1))) (
  some (.out s24))
noncomputable def m63 (a0:(List Offer)):Option Int :=
 bnd (loopP (m63_1b a0 (↑a0.length:Int)) ((-1),0)) fun v50 =>
 some v50
noncomputable def m31_1b (p:(List Offer×List Int)):Option (Ctl (List Offer×List Int) (List Int)) :=
 sel2 p fun s24 s25 =>
 br (ltI 0 (↑s24.length:Int)) (
  bnd (m63 s24) fun r29 =>
  bnd (idx s24 r29) fun x30 =>
  ck (s25.length+1≤68719476736) <|
  ck (0≤r29∧r29≤(↑s24.length:Int)) <|
  ck (0+(s24.take r29.toNat).length≤68719476736) <|
  ck (0≤(wadd .i64 r29 1)∧(wadd .i64 r29 1)≤(↑s24.length:Int)) <|
  ck ((s24.take r29.toNat).length+((s24.drop ((wadd .i64 r29 1).toNat)).take (s24.length-((wadd .i64 r29 1).toNat))).length≤68719476736) <|
  some (.nxt ((s24.take r29.toNat)++((s24.drop ((wadd .i64 r29 1).toNat)).take (s24.length-((wadd .i64 r29 1).toNat))),s25++[x30.peer]))) (
  some (.out s25))
noncomputable def m31 (a0:(List Offer)):Option ((List Int)×Bool) :=
 bnd (m13 a0) fun r3 =>
 br r3 (
  ck (0+a0.length≤68719476736) <|
  bnd (loopP (m31_1b) (a0,[])) fun v47 =>
  some (v47,true)) (
  some ([],false))
noncomputable def m91_1 (a0:Int)(a1:Int)(a2:Int):Option Bool :=
 br (leI a1 a0) (
  some (leI a0 a2)) (
  some false)
noncomputable def m91 (a0:Int)(a1:Int)(a2:Int):Option Bool :=
 bnd (m91_1 a0 a1 a2) fun v4 =>
 some v4
noncomputable def m76 (a0:Int):Option Bool :=
 bnd (m91 a0 0 5) fun r3 =>
 some r3
noncomputable def m115_1b (a0:(List Int))(p1:Int)(a1:(Int→Option Bool))(s12:Int):Option (Ctl Int (Unit ⊕ Int)) :=
 br (ltI s12 p1) (
  bnd (idx a0 s12) fun x14 =>
  bnd (a1 x14) fun r19 =>
  br r19 (
   some (.out (.inr s12))) (
   some (.nxt (wadd .i64 s12 1)))) (
  some (.out (.inl ())))
noncomputable def m115 (a0:(List Int))(a1:(Int→Option Bool)):Option Int :=
 bnd (loopP (m115_1b a0 (↑a0.length:Int) a1) 0) fun o=>selS o (fun _ =>
  some (-1)) (fun v25 =>
  some v25)
noncomputable def m109 (a0:(List Int))(a1:(Int→Option Bool)):Option Bool :=
 bnd (m115 a0 a1) fun r3 =>
 some (leI 0 r3)
noncomputable def m66 (a0:Int):Option Bool :=
 bnd (m91 a0 1 65535) fun r3 =>
 some r3
noncomputable def m110 (a0:Int):Option Bool :=
 bnd (m66 a0) fun r3 =>
 some (!r3)
noncomputable def m98_1 (a0:(List Int)):Option Bool :=
 br (leI (↑a0.length:Int) 10) (
  bnd (m109 a0 (fun y0=>m110 y0)) fun r4 =>
  some (!r4)) (
  some false)
noncomputable def m98 (a0:(List Int)):Option Bool :=
 bnd (m98_1 a0) fun v7 =>
 some v7
noncomputable def m99 (a0:Int):Option Bool :=
 bnd (m91 a0 0 4294967295) fun r3 =>
 some r3
noncomputable def m100 (a0:Int):Option Bool :=
 bnd (m91 a0 0 1000000) fun r3 =>
 some r3
noncomputable def m101_3 (a0:(List Int))(s22:Int)(x24:Int):Option Bool :=
 bnd (m100 x24) fun r31 =>
 br r31 (
  br (ltI 0 s22) (
   bnd (idx a0 (wsub .i64 s22 1)) fun x34 =>
   some (leI x24 x34)) (
   some false)) (
  some true)
noncomputable def m101_1b (a0:(List Int))(p1:Int)(s22:Int):Option (Ctl Int (Unit ⊕ Unit)) :=
 br (ltI s22 p1) (
  bnd (idx a0 s22) fun x24 =>
  bnd (m101_3 a0 s22 x24) fun v41 =>
  br v41 (
   some (.out (.inr ()))) (
   some (.nxt (wadd .i64 s22 1)))) (
  some (.out (.inl ())))
noncomputable def m101 (a0:(List Int)):Option Bool :=
 bnd (loopP (m101_1b a0 (↑a0.length:Int)) 0) fun o=>selS o (fun _ =>
  some (leI (↑a0.length:Int) 6)) (fun _ =>
  some false)
noncomputable def m77_1 (a0:Attrs):Option Bool :=
 bnd (m91 a0.origin 0 2) fun r3 =>
 br r3 (
  bnd (m98 a0.path) fun r7 =>
  br r7 (
   bnd (m99 a0.next) fun r11 =>
   br r11 (
    bnd (m100 a0.med) fun r15 =>
    br r15 (
     bnd (m100 a0.pref) fun r19 =>
     br r19 (
      bnd (m101 a0.comms) fun r23 =>
      some r23) (
      some false)) (
     some false)) (
    some false)) (
   some false)) (
  some false)
noncomputable def m77 (a0:Attrs):Option Bool :=
 bnd (m77_1 a0) fun v26 =>
 some v26
noncomputable def m50_1 (a0:Offer):Option Bool :=
 bnd (m76 a0.peer) fun r3 =>
 br r3 (
  bnd (m77 a0.attrs) fun r7 =>
  some r7) (
  some false)
noncomputable def m50 (a0:Offer):Option Bool :=
 bnd (m50_1 a0) fun v10 =>
 some v10
noncomputable def m15_3 (a0:(List Offer))(s22:Int)(x24:Offer):Option Bool :=
 bnd (m50 x24) fun r31 =>
 br r31 (
  br (ltI 0 s22) (
   bnd (idx a0 (wsub .i64 s22 1)) fun x34 =>
   some (leI x24.peer x34.peer)) (
   some false)) (
  some true)
noncomputable def m15_1b (a0:(List Offer))(p1:Int)(s22:Int):Option (Ctl Int (Unit ⊕ Unit)) :=
 br (ltI s22 p1) (
  bnd (idx a0 s22) fun x24 =>
  bnd (m15_3 a0 s22 x24) fun v41 =>
  br v41 (
   some (.out (.inr ()))) (
   some (.nxt (wadd .i64 s22 1)))) (
  some (.out (.inl ())))
noncomputable def m15 (a0:(List Offer)):Option Bool :=
 bnd (loopP (m15_1b a0 (↑a0.length:Int)) 0) fun o=>selS o (fun _ =>
  some true) (fun _ =>
  some false)
noncomputable def m102 (a0:Int):Option Bool :=
 some (!(eqI a0 a0))
noncomputable def m82 (a0:Int)(a1:Int):Option Int :=
 bnd (m102 a0) fun r3 =>
 bnd (m102 a1) fun r6 =>
 br r3 (
  br r6 (
   some 0) (
   some (-1))) (
  br r6 (
   some 1) (
   br (ltI a0 a1) (
    some (-1)) (
    br (ltI a1 a0) (
     some 1) (
     some 0))))
noncomputable def m81_1b (a0:(List Int))(p1:Int)(s9:Int):Option (Ctl Int (Unit ⊕ Int)) :=
 br (ltI s9 p1) (
  bnd (idx a0 s9) fun x11 =>
  br (eqI x11 0) (
   some (.nxt (wadd .i64 s9 1))) (
   some (.out (.inr x11)))) (
  some (.out (.inl ())))
noncomputable def m81 (a0:(List Int)):Option Int :=
 bnd (loopP (m81_1b a0 (↑a0.length:Int)) 0) fun o=>selS o (fun _ =>
  some 0) (fun v19 =>
  some v19)
noncomputable def m54 (a0:Offer)(a1:Offer):Option Int :=
 br (eqI a0.peer a1.peer) (
  some 0) (
  bnd (m82 a1.attrs.pref a0.attrs.pref) fun r4 =>
  bnd (m82 (↑a0.attrs.path.length:Int) (↑a1.attrs.path.length:Int)) fun r7 =>
  bnd (m82 a0.attrs.origin a1.attrs.origin) fun r10 =>
  bnd (m82 a0.attrs.med a1.attrs.med) fun r13 =>
  bnd (m82 a0.attrs.next a1.attrs.next) fun r16 =>
  bnd (m82 a0.peer a1.peer) fun r19 =>
  bnd (m81 [r4,r7,r10,r13,r16,r19]) fun r22 =>
  some r22)
noncomputable def m89 (a0:(List Offer)):Option (List Offer) :=
 ck (a0.length≤68719476736) <|
 bnd (srtP m54 a0) fun v2 =>
 some v2
noncomputable def m64_1b (r3:(List Offer))(p4:Int)(p:(Int×List Int)):Option (Ctl (Int×List Int) (List Int)) :=
 sel2 p fun s11 s12 =>
 br (ltI s11 p4) (
  bnd (idx r3 s11) fun x14 =>
  ck (s12.length+1≤68719476736) <|
  some (.nxt (wadd .i64 s11 1,s12++[x14.peer]))) (
  some (.out s12))
noncomputable def m64 (a0:(List Offer)):Option (List Int) :=
 bnd (m89 a0) fun r3 =>
 bnd (loopP (m64_1b r3 (↑r3.length:Int)) (0,[])) fun v22 =>
 some v22
noncomputable def m32 (a0:(List Offer)):Option ((List Int)×Bool) :=
 bnd (m15 a0) fun r3 =>
 br r3 (
  bnd (m64 a0) fun r7 =>
  some (r7,true)) (
  some ([],false))
noncomputable def m33_1b (a0:(List Int))(a1:(List Int))(s14:Int):Option (Ctl Int (Unit ⊕ Unit)) :=
 br (ltI s14 (↑a0.length:Int)) (
  bnd (idx a0 s14) fun x16 =>
  bnd (idx a1 s14) fun x21 =>
  br (eqI x16 x21) (
   some (.nxt (wadd .i64 s14 1))) (
   some (.out (.inr ())))) (
  some (.out (.inl ())))
noncomputable def m33 (a0:(List Int))(a1:(List Int)):Option Bool :=
 br (eqI (↑a0.length:Int) (↑a1.length:Int)) (
  bnd (loopP (m33_1b a0 a1) 0) fun o=>selS o (fun _ =>
   some true) (fun _ =>
   some false)) (
  some false)
noncomputable def m55 (a0:Attrs)(a1:Attrs):Option Bool :=
 br (eqI a0.origin a1.origin) (
  bnd (m33 a0.path a1.path) fun r4 =>
  br r4 (
   br (eqI a0.next a1.next) (
    br (eqI a0.med a1.med) (
     br (eqI a0.pref a1.pref) (
      bnd (m33 a0.comms a1.comms) fun r11 =>
      br r11 (
       some true) (
       some false)) (
      some false)) (
     some false)) (
    some false)) (
   some false)) (
  some false)
noncomputable def m21 (a0:Offer)(a1:Offer):Option Bool :=
 br (eqI a0.peer a1.peer) (
  bnd (m55 a0.attrs a1.attrs) fun r4 =>
  br r4 (
   some true) (
   some false)) (
  some false)
noncomputable def m16_1b (a0:(List Offer))(a1:(List Offer))(s17:Int):Option (Ctl Int (Unit ⊕ Unit)) :=
 br (ltI s17 (↑a0.length:Int)) (
  bnd (idx a0 s17) fun x19 =>
  bnd (idx a1 s17) fun x24 =>
  bnd (m21 x19 x24) fun r31 =>
  br r31 (
   some (.nxt (wadd .i64 s17 1))) (
   some (.out (.inr ())))) (
  some (.out (.inl ())))
noncomputable def m16 (a0:(List Offer))(a1:(List Offer)):Option Bool :=
 br (eqI (↑a0.length:Int) (↑a1.length:Int)) (
  bnd (loopP (m16_1b a0 a1) 0) fun o=>selS o (fun _ =>
   some true) (fun _ =>
   some false)) (
  some false)
noncomputable def m34_1b (p:(Int×Int×List Int)):Option (Ctl (Int×Int×List Int) (Int×List Int)) :=
 sel3 p fun s7 s8 s9 =>
 br (ltI s8 (↑s9.length:Int)) (
  bnd (idx s9 s8) fun x11 =>
  some (.nxt (wadd .i64 s7 1,wadd .i64 s8 1,s9.set s8.toNat s7))) (
  some (.out (s7,s9)))
noncomputable def m34 (a0:(List Int))(a1:Int):Option (Int×List Int) :=
 bnd (loopP (m34_1b) (a1,0,a0)) fun p=>sel2 p fun v18 v19 =>
 some (v18,v19)
noncomputable def m24_1b (p:(Int×Int×List Offer)):Option (Ctl (Int×Int×List Offer) (Int×List Offer)) :=
 sel3 p fun s17 s18 s19 =>
 br (ltI s18 (↑s19.length:Int)) (
  bnd (idx s19 s18) fun x21 =>
  bnd (m34 x21.attrs.path (wadd .i64 (wadd .i64 s17 1) 1)) fun p=>sel2 p fun r28 r29 =>
  ck (r29.length=x21.attrs.path.length) <|
  bnd (m34 x21.attrs.comms (wadd .i64 (wadd .i64 (wadd .i64 r28 1) 1) 1)) fun p=>sel2 p fun r33 r34 =>
  ck (r34.length=x21.attrs.comms.length) <|
  some (.nxt (r33,wadd .i64 s18 1,((((((s19.set s18.toNat (⟨s17,x21.attrs⟩:Offer)).set s18.toNat (⟨s17,(⟨wadd .i64 s17 1,x21.attrs.path,x21.attrs.next,x21.attrs.med,x21.attrs.pref,x21.attrs.comms⟩:Attrs)⟩:Offer)).set s18.toNat (⟨s17,(⟨wadd .i64 s17 1,r29,x21.attrs.next,x21.attrs.med,x21.attrs.pref,x21.attrs.comms⟩:Attrs)⟩:Offer)).set s18.toNat (⟨s17,(⟨wadd .i64 s17 1,r29,r28,x21.attrs.med,x21.attrs.pref,x21.attrs.comms⟩:Attrs)⟩:Offer)).set s18.toNat (⟨s17,(⟨wadd .i64 s17 1,r29,r28,wadd .i64 r28 1,x21.attrs.pref,x21.attrs.comms⟩:Attrs)⟩:Offer)).set s18.toNat (⟨s17,(⟨wadd .i64 s17 1,r29,r28,wadd .i64 r28 1,wadd .i64 (wadd .i64 r28 1) 1,x21.attrs.comms⟩:Attrs)⟩:Offer)).set s18.toNat (⟨s17,(⟨wadd .i64 s17 1,r29,r28,wadd .i64 r28 1,wadd .i64 (wadd .i64 r28 1) 1,r34⟩:Attrs)⟩:Offer)))) (
  some (.out (s17,s19)))
noncomputable def m24 (a0:(List Offer))(a1:Int):Option (Int×List Offer) :=
 bnd (loopP (m24_1b) (a1,0,a0)) fun p=>sel2 p fun v38 v39 =>
 some (v38,v39)
noncomputable def m35_1b (a0:(List Int))(p:(Int×Int)):Option (Ctl (Int×Int) (Int ⊕ Unit)) :=
 sel2 p fun s8 s9 =>
 br (ltI s9 (↑a0.length:Int)) (
  bnd (idx a0 s9) fun x11 =>
  br (eqI x11 s8) (
   some (.nxt (wadd .i64 s8 1,wadd .i64 s9 1))) (
   some (.out (.inr ())))) (
  some (.out (.inl s8)))
noncomputable def m35 (a0:(List Int))(a1:Int):Option Int :=
 bnd (loopP (m35_1b a0) (a1,0)) fun o=>selS o (fun v19 =>
  some v19) (fun _ =>
  some (-1))
noncomputable def m8_1 (r11:Bool)(r17:Bool)(r10:(List Int))(r16:(List Int)):Option Bool :=
 bnd (m33 r16 r10) fun r20 =>
 br r20 (
  some (!eqB r17 r11)) (
  some true)
noncomputable def m8_2 (r11:Bool)(r17:Bool)(r34:Int)(r10:(List Int))(r16:(List Int)):Option Bool :=
 br (ltI r34 0) (
  some true) (
  bnd (m33 r16 r10) fun r40 =>
  br r40 (
   some (!eqB r17 r11)) (
   some true))
noncomputable def m8_3 (r11:Bool)(r17:Bool)(r10:(List Int))(r16:(List Int)):Option Bool :=
 bnd (m33 r16 r10) fun r62 =>
 br r62 (
  some (!eqB r17 r11)) (
  some true)
noncomputable def m8 (a0:(List Offer)):Option Bool :=
 bnd (m12 a0 1048576) fun r3 =>
 br (ltI r3 0) (
  some true) (
  bnd (m14 a0) fun r7 =>
  bnd (m31 r7) fun p=>sel2 p fun r10 r11 =>
  bnd (m32 r7) fun p=>sel2 p fun r16 r17 =>
  bnd (m8_1 r11 r17 r10 r16) fun v24 =>
  br v24 (
   some false) (
   bnd (m16 r7 r7) fun r30 =>
   br r30 (
    bnd (m24 r7 1) fun p=>sel2 p fun r34 r35 =>
    ck (r35.length=r7.length) <|
    bnd (m8_2 r11 r17 r34 r10 r16) fun v44 =>
    br v44 (
     some false) (
     bnd (m34 r16 1) fun p=>sel2 p fun r48 r49 =>
     ck (r49.length=r16.length) <|
     bnd (m35 r49 1) fun r53 =>
     br (ltI r53 0) (
      some false) (
      br (eqI r53 r48) (
       bnd (m8_3 r11 r17 r10 r16) fun v66 =>
       br v66 (
        some false) (
        some true)) (
       some false)))) (
    some false)))
end Go.Pi.Ytlcanbihlfncoaa.RankOffers
