/- no condition -/
import Derived.Test.YthidbgihjhkjaaaGreatPiD
set_option linter.all false
namespace Go.Pi.YthidbgihjhkjaaaGreat.FilterRoutes
open Go Go.Pi
set_option maxRecDepth 100000
set_option linter.all false
def wfInt (x:Int):Prop:=-9223372036854775808≤x∧x≤9223372036854775807
structure Prefix where
 addr:Int
 len:Int
 deriving Inhabited,DecidableEq
def wfPrefix (x:Prefix):Prop:=wfInt x.addr∧wfInt x.len
structure Range where
 prefix_:Prefix
 lo:Int
 hi:Int
 deriving Inhabited,DecidableEq
def wfRange (x:Range):Prop:=wfPrefix x.prefix_∧wfInt x.lo∧wfInt x.hi
def wfLRange (x:(List Range)):Prop:=x.length≤9223372036854775807∧∀y∈x,wfRange y
structure ReCell where
 kind:Int
 n:Int
 deriving Inhabited,DecidableEq
def wfReCell (x:ReCell):Prop:=wfInt x.kind∧wfInt x.n
def wfLReCell (x:(List ReCell)):Prop:=x.length≤9223372036854775807∧∀y∈x,wfReCell y
structure Acn where
 kind:Int
 n:Int
 deriving Inhabited,DecidableEq
def wfAcn (x:Acn):Prop:=wfInt x.kind∧wfInt x.n
def wfLAcn (x:(List Acn)):Prop:=x.length≤9223372036854775807∧∀y∈x,wfAcn y
structure Term where
 ranges:(List Range)
 path:(List ReCell)
 comm:Int
 acts:(List Acn)
 verdict:Int
 deriving Inhabited,DecidableEq
def wfTerm (x:Term):Prop:=wfLRange x.ranges∧wfLReCell x.path∧wfInt x.comm∧wfLAcn x.acts∧wfInt x.verdict
def wfLTerm (x:(List Term)):Prop:=x.length≤9223372036854775807∧∀y∈x,wfTerm y
def wfBool (x:Bool):Prop:=True
structure Policy where
 terms:(List Term)
 accept:Bool
 deriving Inhabited,DecidableEq
def wfPolicy (x:Policy):Prop:=wfLTerm x.terms∧wfBool x.accept
def wfLInt (x:(List Int)):Prop:=x.length≤9223372036854775807∧∀y∈x,wfInt y
structure Attrs where
 origin:Int
 path:(List Int)
 next:Int
 med:Int
 pref:Int
 comms:(List Int)
 deriving Inhabited,DecidableEq
def wfAttrs (x:Attrs):Prop:=wfInt x.origin∧wfLInt x.path∧wfInt x.next∧wfInt x.med∧wfInt x.pref∧wfLInt x.comms
structure Route where
 prefix_:Prefix
 attrs:Attrs
 deriving Inhabited,DecidableEq
def wfRoute (x:Route):Prop:=wfPrefix x.prefix_∧wfAttrs x.attrs
def wfLRoute (x:(List Route)):Prop:=x.length≤9223372036854775807∧∀y∈x,wfRoute y
inductive l6T where
 | mk (kind_:Int) (n_:Int) (kids_:(List l6T))
def l6T.kind_:l6T→Int
 | .mk x _ _=>x
def l6T.n_:l6T→Int
 | .mk _ x _=>x
def l6T.kids_:l6T→(List l6T)
 | .mk _ _ x=>x
instance:Inhabited l6T:=⟨.mk 0 0 []⟩
def wfl6T (x:l6T):Prop:=True
def wfLl6T (x:(List l6T)):Prop:=x.length≤9223372036854775807∧∀y∈x,wfl6T y
inductive pattern where
 | mk (cell:ReCell) (parts:(List pattern))
def pattern.cell:pattern→ReCell
 | .mk x _=>x
def pattern.parts:pattern→(List pattern)
 | .mk _ x=>x
instance:Inhabited pattern:=⟨.mk (⟨0,0⟩:ReCell) []⟩
def wfpattern (x:pattern):Prop:=True
def wfPpattern (x:pattern):Prop:=True
def wfLPpattern (x:(List pattern)):Prop:=x.length≤9223372036854775807∧∀y∈x,wfPpattern y
noncomputable def m69 (a0:(List Range))(a1:Int):Option Int :=
 br (ltI (wsub .i64 a1 (↑a0.length:Int)) 0) (
  some (-1)) (
  some (wsub .i64 a1 (↑a0.length:Int)))
noncomputable def m70 (a0:(List ReCell))(a1:Int):Option Int :=
 br (ltI (wsub .i64 a1 (↑a0.length:Int)) 0) (
  some (-1)) (
  some (wsub .i64 a1 (↑a0.length:Int)))
noncomputable def m71 (a0:(List Acn))(a1:Int):Option Int :=
 br (ltI (wsub .i64 a1 (↑a0.length:Int)) 0) (
  some (-1)) (
  some (wsub .i64 a1 (↑a0.length:Int)))
noncomputable def m45 (a0:Term)(a1:Int):Option Int :=
 bnd (m69 a0.ranges a1) fun r3 =>
 br (ltI r3 0) (
  some (-1)) (
  bnd (m70 a0.path r3) fun r7 =>
  br (ltI r7 0) (
   some (-1)) (
   bnd (m71 a0.acts r7) fun r11 =>
   br (ltI r11 0) (
    some (-1)) (
    some r11)))
noncomputable def m23_1b (a0:(List Term))(p:(Int×Int)):Option (Ctl (Int×Int) (Int ⊕ Unit)) :=
 sel2 p fun s13 s14 =>
 br (ltI s14 (↑a0.length:Int)) (
  bnd (idx a0 s14) fun x16 =>
  bnd (m45 x16 s13) fun r23 =>
  br (ltI r23 0) (
   some (.out (.inr ()))) (
   some (.nxt (r23,wadd .i64 s14 1)))) (
  some (.out (.inl s13)))
noncomputable def m23 (a0:(List Term))(a1:Int):Option Int :=
 br (ltI (wsub .i64 a1 (↑a0.length:Int)) 0) (
  some (-1)) (
  bnd (loopP (m23_1b a0) (wsub .i64 a1 (↑a0.length:Int),0)) fun o=>selS o (fun v27 =>
   some v27) (fun _ =>
   some (-1)))
noncomputable def m5 (a0:Policy)(a1:Int):Option Int :=
 bnd (m23 a0.terms a1) fun r3 =>
 br (ltI r3 0) (
  some (-1)) (
  some r3)
noncomputable def m46 (a0:(List Int))(a1:Int):Option Int :=
 br (ltI (wsub .i64 a1 (↑a0.length:Int)) 0) (
  some (-1)) (
  some (wsub .i64 a1 (↑a0.length:Int)))
noncomputable def m24 (a0:Attrs)(a1:Int):Option Int :=
 bnd (m46 a0.path a1) fun r3 =>
 br (ltI r3 0) (
  some (-1)) (
  bnd (m46 a0.comms r3) fun r7 =>
  br (ltI r7 0) (
   some (-1)) (
   some r7))
noncomputable def m6 (a0:Route)(a1:Int):Option Int :=
 bnd (m24 a0.attrs a1) fun r3 =>
 br (ltI r3 0) (
  some (-1)) (
  some r3)
noncomputable def m16_1b (a0:(List Route))(p:(Int×Int)):Option (Ctl (Int×Int) (Int ⊕ Unit)) :=
 sel2 p fun s13 s14 =>
 br (ltI s14 (↑a0.length:Int)) (
  bnd (idx a0 s14) fun x16 =>
  bnd (m6 x16 s13) fun r23 =>
  br (ltI r23 0) (
   some (.out (.inr ()))) (
   some (.nxt (r23,wadd .i64 s14 1)))) (
  some (.out (.inl s13)))
noncomputable def m16 (a0:(List Route))(a1:Int):Option Int :=
 br (ltI (wsub .i64 a1 (↑a0.length:Int)) 0) (
  some (-1)) (
  bnd (loopP (m16_1b a0) (wsub .i64 a1 (↑a0.length:Int),0)) fun o=>selS o (fun v27 =>
   some v27) (fun _ =>
   some (-1)))
noncomputable def m30 (a0:Prefix):Option Prefix :=
 some a0
noncomputable def m113 (a0:Range):Option Range :=
 bnd (m30 a0.prefix_) fun r3 =>
 some (⟨r3,a0.lo,a0.hi⟩:Range)
noncomputable def m81_1b (a0:(List Range))(p:(Int×List Range)):Option (Ctl (Int×List Range) (List Range)) :=
 sel2 p fun s17 s18 =>
 br (ltI s17 (↑a0.length:Int)) (
  bnd (idx a0 s17) fun x20 =>
  bnd (m113 x20) fun r27 =>
  bnd (idx s18 s17) fun x28 =>
  some (.nxt (wadd .i64 s17 1,s18.set s17.toNat r27))) (
  some (.out s18))
noncomputable def m81 (a0:(List Range)):Option (List Range) :=
 ck (0≤(↑a0.length:Int)∧(↑a0.length:Int)≤(↑a0.length:Int)∧(↑a0.length:Int)≤68719476736) <|
 bnd (loopP (m81_1b a0) (0,List.replicate a0.length (⟨(⟨0,0⟩:Prefix),0,0⟩:Range))) fun v35 =>
 some v35
noncomputable def m114 (a0:ReCell):Option ReCell :=
 some a0
noncomputable def m82_1b (a0:(List ReCell))(p:(Int×List ReCell)):Option (Ctl (Int×List ReCell) (List ReCell)) :=
 sel2 p fun s17 s18 =>
 br (ltI s17 (↑a0.length:Int)) (
  bnd (idx a0 s17) fun x20 =>
  bnd (m114 x20) fun r27 =>
  bnd (idx s18 s17) fun x28 =>
  some (.nxt (wadd .i64 s17 1,s18.set s17.toNat r27))) (
  some (.out s18))
noncomputable def m82 (a0:(List ReCell)):Option (List ReCell) :=
 ck (0≤(↑a0.length:Int)∧(↑a0.length:Int)≤(↑a0.length:Int)∧(↑a0.length:Int)≤68719476736) <|
 bnd (loopP (m82_1b a0) (0,List.replicate a0.length (⟨0,0⟩:ReCell))) fun v35 =>
 some v35
noncomputable def m115 (a0:Acn):Option Acn :=
 some a0
noncomputable def m83_1b (a0:(List Acn))(p:(Int×List Acn)):Option (Ctl (Int×List Acn) (List Acn)) :=
 sel2 p fun s17 s18 =>
 br (ltI s17 (↑a0.length:Int)) (
  bnd (idx a0 s17) fun x20 =>
  bnd (m115 x20) fun r27 =>
  bnd (idx s18 s17) fun x28 =>
  some (.nxt (wadd .i64 s17 1,s18.set s17.toNat r27))) (
  some (.out s18))
noncomputable def m83 (a0:(List Acn)):Option (List Acn) :=
 ck (0≤(↑a0.length:Int)∧(↑a0.length:Int)≤(↑a0.length:Int)∧(↑a0.length:Int)≤68719476736) <|
 bnd (loopP (m83_1b a0) (0,List.replicate a0.length (⟨0,0⟩:Acn))) fun v35 =>
 some v35
noncomputable def m53 (a0:Term):Option Term :=
 bnd (m81 a0.ranges) fun r3 =>
 bnd (m82 a0.path) fun r6 =>
 bnd (m83 a0.acts) fun r9 =>
 some (⟨r3,r6,a0.comm,r9,a0.verdict⟩:Term)
noncomputable def m29_1b (a0:(List Term))(p:(Int×List Term)):Option (Ctl (Int×List Term) (List Term)) :=
 sel2 p fun s17 s18 =>
 br (ltI s17 (↑a0.length:Int)) (
  bnd (idx a0 s17) fun x20 =>
  bnd (m53 x20) fun r27 =>
  bnd (idx s18 s17) fun x28 =>
  some (.nxt (wadd .i64 s17 1,s18.set s17.toNat r27))) (
  some (.out s18))
noncomputable def m29 (a0:(List Term)):Option (List Term) :=
 ck (0≤(↑a0.length:Int)∧(↑a0.length:Int)≤(↑a0.length:Int)∧(↑a0.length:Int)≤68719476736) <|
 bnd (loopP (m29_1b a0) (0,List.replicate a0.length (⟨[],[],0,[],0⟩:Term))) fun v35 =>
 some v35
noncomputable def m8 (a0:Policy):Option Policy :=
 bnd (m29 a0.terms) fun r3 =>
 some (⟨r3,a0.accept⟩:Policy)
noncomputable def m54_1b (a0:(List Int))(p:(Int×List Int)):Option (Ctl (Int×List Int) (List Int)) :=
 sel2 p fun s14 s15 =>
 br (ltI s14 (↑a0.length:Int)) (
  bnd (idx a0 s14) fun x17 =>
  bnd (idx s15 s14) fun x22 =>
  some (.nxt (wadd .i64 s14 1,s15.set s14.toNat x17))) (
  some (.out s15))
noncomputable def m54 (a0:(List Int)):Option (List Int) :=
 ck (0≤(↑a0.length:Int)∧(↑a0.length:Int)≤(↑a0.length:Int)∧(↑a0.length:Int)≤68719476736) <|
 bnd (loopP (m54_1b a0) (0,List.replicate a0.length 0)) fun v29 =>
 some v29
noncomputable def m31 (a0:Attrs):Option Attrs :=
 bnd (m54 a0.path) fun r3 =>
 bnd (m54 a0.comms) fun r6 =>
 some (⟨a0.origin,r3,a0.next,a0.med,a0.pref,r6⟩:Attrs)
noncomputable def m9 (a0:Route):Option Route :=
 bnd (m30 a0.prefix_) fun r3 =>
 bnd (m31 a0.attrs) fun r6 =>
 some (⟨r3,r6⟩:Route)
noncomputable def m18_1b (a0:(List Route))(p:(Int×List Route)):Option (Ctl (Int×List Route) (List Route)) :=
 sel2 p fun s17 s18 =>
 br (ltI s17 (↑a0.length:Int)) (
  bnd (idx a0 s17) fun x20 =>
  bnd (m9 x20) fun r27 =>
  bnd (idx s18 s17) fun x28 =>
  some (.nxt (wadd .i64 s17 1,s18.set s17.toNat r27))) (
  some (.out s18))
noncomputable def m18 (a0:(List Route)):Option (List Route) :=
 ck (0≤(↑a0.length:Int)∧(↑a0.length:Int)≤(↑a0.length:Int)∧(↑a0.length:Int)≤68719476736) <|
 bnd (loopP (m18_1b a0) (0,List.replicate a0.length (⟨(⟨0,0⟩:Prefix),(⟨0,[],0,0,0,[]⟩:Attrs)⟩:Route))) fun v35 =>
 some v35
noncomputable def m72_1 (a0:Int)(a1:Int)(a2:Int):Option Bool :=
 br (leI a1 a0) (
  some (leI a0 a2)) (
  some false)
noncomputable def m72 (a0:Int)(a1:Int)(a2:Int):Option Bool :=
 bnd (m72_1 a0 a1 a2) fun v4 =>
 some v4
noncomputable def m75 (a0:Int):Option Bool :=
 bnd (m72 a0 0 4294967295) fun r3 =>
 some r3
noncomputable def m76 (a0:Prefix):Option Int :=
 ck (¬(wcv .u64 (wsub .i64 32 a0.len))<0) <|
 some (wshl .i64 1 (wcv .u64 (wsub .i64 32 a0.len)))
noncomputable def m48_1 (a0:Prefix):Option Bool :=
 bnd (m72 a0.len 0 32) fun r3 =>
 br r3 (
  bnd (m75 a0.addr) fun r7 =>
  br r7 (
   bnd (m76 a0) fun r11 =>
   ck (¬r11=0) <|
   some (eqI (wrem .i64 a0.addr r11) 0)) (
   some false)) (
  some false)
noncomputable def m48 (a0:Prefix):Option Bool :=
 bnd (m48_1 a0) fun v15 =>
 some v15
noncomputable def m73_3 (a0:Acn)(p5:Bool):Option Bool :=
 br p5 (
  some p5) (
  some (eqI a0.kind 4))
noncomputable def m73_2 (a0:Acn)(p3:Bool):Option Bool :=
 br p3 (
  some p3) (
  bnd (m73_3 a0 (eqI a0.kind 3)) fun v9 =>
  some v9)
noncomputable def m73_1 (a0:Acn)(p1:Bool):Option Bool :=
 br p1 (
  some p1) (
  bnd (m73_2 a0 (eqI a0.kind 2)) fun v12 =>
  some v12)
noncomputable def m73_4 (a0:Acn):Option Bool :=
 br (eqI a0.kind 5) (
  bnd (m72 a0.n 1 65535) fun r23 =>
  some r23) (
  some false)
noncomputable def m73 (a0:Acn):Option Bool :=
 bnd (m73_1 a0 (eqI a0.kind 1)) fun v15 =>
 br v15 (
  bnd (m72 a0.n 0 1000000) fun r19 =>
  some r19) (
  bnd (m73_4 a0) fun v26 =>
  some v26)
noncomputable def m149_3 (a0:Int)(p5:Bool):Option Bool :=
 br p5 (
  some p5) (
  some (eqI a0 4))
noncomputable def m149_2 (a0:Int)(p3:Bool):Option Bool :=
 br p3 (
  some p3) (
  bnd (m149_3 a0 (eqI a0 3)) fun v9 =>
  some v9)
noncomputable def m149_1 (a0:Int)(p1:Bool):Option Bool :=
 br p1 (
  some p1) (
  bnd (m149_2 a0 (eqI a0 2)) fun v12 =>
  some v12)
noncomputable def m149_4 (a0:Int)(p17:Bool):Option Bool :=
 br p17 (
  some p17) (
  some (eqI a0 6))
noncomputable def m149 (a0:Int):Option Int :=
 bnd (m149_1 a0 (eqI a0 1)) fun v15 =>
 br v15 (
  some 0) (
  bnd (m149_4 a0 (eqI a0 5)) fun v21 =>
  br v21 (
   some 2) (
   br (eqI a0 7) (
    some 1) (
    some (-1))))
noncomputable def m139_1 (rc:(List ReCell)→Int→Option (l6T×Int))(r9:Int)(x2:ReCell):Option Bool :=
 br (ltI r9 0) (
  some true) (
  br (eqI x2.kind 3) (
   bnd (m72 x2.n 1 65535) fun r14 =>
   br r14 (
    some false) (
    some true)) (
   some (!(eqI x2.n 0))))
noncomputable def m139_2b (rc:(List ReCell)→Int→Option (l6T×Int))(a0:(List ReCell))(p:(Int×Int×List l6T)):Option (Ctl (Int×Int×List l6T) ((Int×List l6T) ⊕ Unit)) :=
 sel3 p fun s27 s28 s29 =>
 br (ltI 0 s28) (
  bnd (rc a0 s27) fun p=>sel2 p fun r33 r34 =>
  br (eqI r34 0) (
   some (.out (.inr ()))) (
   ck (s29.length+1≤68719476736) <|
   some (.nxt (r34,wsub .i64 s28 1,s29++[r33])))) (
  some (.out (.inl (s27,s29))))
noncomputable def m139r (rc:(List ReCell)→Int→Option (l6T×Int))(a0:(List ReCell))(a1:Int):Option (l6T×Int) :=
 br (leI (↑a0.length:Int) a1) (
  some ((⟨0,0,[]⟩:l6T),0)) (
  bnd (idx a0 a1) fun x2 =>
  bnd (m149 x2.kind) fun r9 =>
  bnd (m139_1 rc r9 x2) fun v18 =>
  br v18 (
   some ((⟨0,0,[]⟩:l6T),0)) (
   bnd (loopP (m139_2b rc a0) (wadd .i64 a1 1,r9,[])) fun o=>selS o (fun p=>sel2 p fun v39 v40 =>
    some ((⟨x2.kind,x2.n,v40⟩:l6T),v39)) (fun _ =>
    some ((⟨0,0,[]⟩:l6T),0))))
noncomputable def m139k:Nat→(List ReCell)→Int→Option (l6T×Int)
 | 0=>fun _ _=>none
 | k+1=>m139r (m139k k)
noncomputable def m139 (a0:(List ReCell))(a1:Int):Option (l6T×Int):=limO (fun k=>m139k k a0 a1)
noncomputable def m109_1 (a0:(List ReCell))(r5:Int):Option Bool :=
 br (ltI 0 r5) (
  some (eqI r5 (↑a0.length:Int))) (
  some false)
noncomputable def m109 (a0:(List ReCell)):Option (l6T×Bool) :=
 br (ltI 30 (↑a0.length:Int)) (
  some ((⟨0,0,[]⟩:l6T),false)) (
  bnd (m139 a0 0) fun p=>sel2 p fun r4 r5 =>
  bnd (m109_1 a0 r5) fun v9 =>
  some (r4,v9))
noncomputable def m74 (a0:(List ReCell)):Option Bool :=
 bnd (m109 a0) fun p=>sel2 p fun r3 r4 =>
 some r4
noncomputable def m47_3 (x25:Range):Option Bool :=
 bnd (m48 x25.prefix_) fun r32 =>
 br r32 (
  bnd (m72 x25.lo x25.prefix_.len 32) fun r36 =>
  br r36 (
   bnd (m72 x25.hi x25.lo 32) fun r40 =>
   some (!r40)) (
   some true)) (
  some true)
noncomputable def m47_1b (a0:Term)(p1:Int)(s23:Int):Option (Ctl Int (Unit ⊕ Unit)) :=
 br (ltI s23 p1) (
  bnd (idx a0.ranges s23) fun x25 =>
  bnd (m47_3 x25) fun v43 =>
  br v43 (
   some (.out (.inr ()))) (
   some (.nxt (wadd .i64 s23 1)))) (
  some (.out (.inl ())))
noncomputable def m47_4b (a0:Term)(p47:Int)(s58:Int):Option (Ctl Int (Unit ⊕ Unit)) :=
 br (ltI s58 p47) (
  bnd (idx a0.acts s58) fun x60 =>
  bnd (m73 x60) fun r67 =>
  br r67 (
   some (.nxt (wadd .i64 s58 1))) (
   some (.out (.inr ())))) (
  some (.out (.inl ())))
noncomputable def m47_5 (a0:Term):Option Bool :=
 br (leI (↑a0.ranges.length:Int) 6) (
  br (leI (↑a0.acts.length:Int) 5) (
   br (eqI (↑a0.path.length:Int) 0) (
    bnd (m72 a0.comm (-1) 1000000) fun r76 =>
    br r76 (
     bnd (m72 a0.verdict 0 2) fun r80 =>
     some r80) (
     some false)) (
    bnd (m74 a0.path) fun r83 =>
    br r83 (
     bnd (m72 a0.comm (-1) 1000000) fun r87 =>
     br r87 (
      bnd (m72 a0.verdict 0 2) fun r91 =>
      some r91) (
      some false)) (
     some false))) (
   some false)) (
  some false)
noncomputable def m47 (a0:Term):Option Bool :=
 bnd (loopP (m47_1b a0 (↑a0.ranges.length:Int)) 0) fun o=>selS o (fun _ =>
  bnd (loopP (m47_4b a0 (↑a0.acts.length:Int)) 0) fun o=>selS o (fun _ =>
   bnd (m47_5 a0) fun v94 =>
   some v94) (fun _ =>
   some false)) (fun _ =>
  some false)
noncomputable def m25_1b (a0:Policy)(p1:Int)(s12:Int):Option (Ctl Int (Unit ⊕ Unit)) :=
 br (ltI s12 p1) (
  bnd (idx a0.terms s12) fun x14 =>
  bnd (m47 x14) fun r21 =>
  br r21 (
   some (.nxt (wadd .i64 s12 1))) (
   some (.out (.inr ())))) (
  some (.out (.inl ())))
noncomputable def m25 (a0:Policy):Option Bool :=
 bnd (loopP (m25_1b a0 (↑a0.terms.length:Int)) 0) fun o=>selS o (fun _ =>
  some (leI (↑a0.terms.length:Int) 8)) (fun _ =>
  some false)
noncomputable def m49_1b (a0:Attrs)(p1:Int)(s12:Int):Option (Ctl Int (Unit ⊕ Unit)) :=
 br (ltI s12 p1) (
  bnd (idx a0.path s12) fun x14 =>
  bnd (m72 x14 1 65535) fun r21 =>
  br r21 (
   some (.nxt (wadd .i64 s12 1))) (
   some (.out (.inr ())))) (
  some (.out (.inl ())))
noncomputable def m49_4 (s46:Int)(x48:Int)(a0:Attrs):Option Bool :=
 bnd (m72 x48 0 1000000) fun r55 =>
 br r55 (
  br (ltI 0 s46) (
   bnd (idx a0.comms (wsub .i64 s46 1)) fun x58 =>
   some (leI x48 x58)) (
   some false)) (
  some true)
noncomputable def m49_2b (a0:Attrs)(p25:Int)(s46:Int):Option (Ctl Int (Unit ⊕ Unit)) :=
 br (ltI s46 p25) (
  bnd (idx a0.comms s46) fun x48 =>
  bnd (m49_4 s46 x48 a0) fun v65 =>
  br v65 (
   some (.out (.inr ()))) (
   some (.nxt (wadd .i64 s46 1)))) (
  some (.out (.inl ())))
noncomputable def m49_5 (a0:Attrs):Option Bool :=
 bnd (m72 a0.origin 0 2) fun r71 =>
 br r71 (
  br (leI (↑a0.path.length:Int) 10) (
   bnd (m75 a0.next) fun r76 =>
   br r76 (
    bnd (m72 a0.med 0 1000000) fun r80 =>
    br r80 (
     bnd (m72 a0.pref 0 1000000) fun r84 =>
     br r84 (
      some (leI (↑a0.comms.length:Int) 6)) (
      some false)) (
     some false)) (
    some false)) (
   some false)) (
  some false)
noncomputable def m49 (a0:Attrs):Option Bool :=
 bnd (loopP (m49_1b a0 (↑a0.path.length:Int)) 0) fun o=>selS o (fun _ =>
  bnd (loopP (m49_2b a0 (↑a0.comms.length:Int)) 0) fun o=>selS o (fun _ =>
   bnd (m49_5 a0) fun v88 =>
   some v88) (fun _ =>
   some false)) (fun _ =>
  some false)
noncomputable def m26_1 (a0:Route):Option Bool :=
 bnd (m48 a0.prefix_) fun r3 =>
 br r3 (
  bnd (m49 a0.attrs) fun r7 =>
  some r7) (
  some false)
noncomputable def m26 (a0:Route):Option Bool :=
 bnd (m26_1 a0) fun v10 =>
 some v10
noncomputable def m52 (a0:Attrs):Option Attrs :=
 ck (0+a0.path.length≤68719476736) <|
 ck (0+a0.comms.length≤68719476736) <|
 some a0
noncomputable def m28 (a0:Route):Option Route :=
 bnd (m52 a0.attrs) fun r3 =>
 some (⟨a0.prefix_,r3⟩:Route)
noncomputable def m110 (a0:Prefix)(a1:Int):Option Bool :=
 bnd (m76 a0) fun r3 =>
 ck (¬r3=0) <|
 some (eqI (wsub .i64 a1 (wrem .i64 a1 r3)) a0.addr)
noncomputable def m77_1 (a0:Prefix)(a1:Prefix):Option Bool :=
 br (leI a0.len a1.len) (
  bnd (m110 a0 a1.addr) fun r4 =>
  some r4) (
  some false)
noncomputable def m77 (a0:Prefix)(a1:Prefix):Option Bool :=
 bnd (m77_1 a0 a1) fun v7 =>
 some v7
noncomputable def m111_1b (a0:(List Int))(p1:Int)(s12:Int):Option (Ctl Int (Unit ⊕ Unit)) :=
 br (ltI s12 p1) (
  bnd (idx a0 s12) fun x14 =>
  bnd (m72 x14 1 65535) fun r21 =>
  br r21 (
   some (.nxt (wadd .i64 s12 1))) (
   some (.out (.inr ())))) (
  some (.out (.inl ())))
noncomputable def m111 (a0:(List Int)):Option Bool :=
 bnd (loopP (m111_1b a0 (↑a0.length:Int)) 0) fun o=>selS o (fun _ =>
  some (leI (↑a0.length:Int) 10)) (fun _ =>
  some false)
noncomputable def m80_3 (a1:Int)(s11:Int)(a0:(List Int)):Option Bool :=
 br (ltI s11 (↑a0.length:Int)) (
  bnd (idx a0 s11) fun x13 =>
  some (ltI x13 a1)) (
  some false)
noncomputable def m80_1b (a1:Int)(a0:(List Int))(s11:Int):Option (Ctl Int Int) :=
 bnd (m80_3 a1 s11 a0) fun v20 =>
 br v20 (
  some (.nxt (wadd .i64 s11 1))) (
  some (.out s11))
noncomputable def m80_4 (a1:Int)(v24:Int)(a0:(List Int)):Option Bool :=
 br (ltI v24 (↑a0.length:Int)) (
  bnd (idx a0 v24) fun x26 =>
  some (eqI x26 a1)) (
  some false)
noncomputable def m80 (a0:(List Int))(a1:Int):Option (List Int) :=
 bnd (loopP (m80_1b a1 a0) 0) fun v24 =>
 bnd (m80_4 a1 v24 a0) fun v33 =>
 br v33 (
  some a0) (
  ck (0≤v24∧v24≤(↑a0.length:Int)) <|
  ck ((a0.take v24.toNat).length≤68719476736) <|
  ck ((a0.take v24.toNat).length+1≤68719476736) <|
  ck (0≤v24∧v24≤(↑a0.length:Int)) <|
  ck (((a0.take v24.toNat)++[a1]).length+((a0.drop v24.toNat).take (a0.length-v24.toNat)).length≤68719476736) <|
  some (((a0.take v24.toNat)++[a1])++((a0.drop v24.toNat).take (a0.length-v24.toNat))))
noncomputable def m112_1 (rc:l6T→(List Int)→Int→Option (List Int))(a0:l6T)(p2:Bool):Option Bool :=
 br p2 (
  some p2) (
  some (eqI a0.kind_ 4))
noncomputable def m112_3 (rc:l6T→(List Int)→Int→Option (List Int))(a1:(List Int))(a2:Int)(a0:l6T):Option Bool :=
 br (ltI a2 (↑a1.length:Int)) (
  br (eqI a0.kind_ 4) (
   some true) (
   bnd (idx a1 a2) fun x10 =>
   some (eqI x10 a0.n_))) (
  some false)
noncomputable def m112_4b (rc:l6T→(List Int)→Int→Option (List Int))(p36:Int)(r35:(List Int))(p:(Int×List Int)):Option (Ctl (Int×List Int) (List Int)) :=
 sel2 p fun s46 s47 =>
 br (ltI s46 p36) (
  bnd (idx r35 s46) fun x49 =>
  bnd (m80 s47 x49) fun r56 =>
  some (.nxt (wadd .i64 s46 1,r56))) (
  some (.out s47))
noncomputable def m112_7b (rc:l6T→(List Int)→Int→Option (List Int))(p124:Int)(r123:(List Int))(p:(Int×List Int)):Option (Ctl (Int×List Int) (List Int)) :=
 sel2 p fun s134 s135 =>
 br (ltI s134 p124) (
  bnd (idx r123 s134) fun x137 =>
  bnd (m80 s135 x137) fun r144 =>
  some (.nxt (wadd .i64 s134 1,r144))) (
  some (.out s135))
noncomputable def m112_5b (rc:l6T→(List Int)→Int→Option (List Int))(a1:(List Int))(p69:Int)(a0:l6T)(r68:(List Int))(p:(Int×List Int)):Option (Ctl (Int×List Int) (List Int)) :=
 sel2 p fun s108 s109 =>
 br (ltI s108 p69) (
  bnd (idx r68 s108) fun x111 =>
  bnd (idx a0.kids_ 1) fun x116 =>
  bnd (rc x116 a1 x111) fun r123 =>
  bnd (loopP (m112_7b rc (↑r123.length:Int) r123) (0,s109)) fun v147 =>
  some (.nxt (wadd .i64 s108 1,v147))) (
  some (.out s109))
noncomputable def m112_14b (rc:l6T→(List Int)→Int→Option (List Int))(p296:Int)(r295:(List Int))(p:(Int×List Int)):Option (Ctl (Int×List Int) (List Int)) :=
 sel2 p fun s306 s307 =>
 br (ltI s306 p296) (
  bnd (idx r295 s306) fun x309 =>
  bnd (m80 s307 x309) fun r316 =>
  some (.nxt (wadd .i64 s306 1,r316))) (
  some (.out s307))
noncomputable def m112_12b (rc:l6T→(List Int)→Int→Option (List Int))(a1:(List Int))(p241:Int)(a0:l6T)(s238:List Int)(p:(Int×List Int)):Option (Ctl (Int×List Int) (List Int)) :=
 sel2 p fun s280 s281 =>
 br (ltI s280 p241) (
  bnd (idx s238 s280) fun x283 =>
  bnd (idx a0.kids_ 0) fun x288 =>
  bnd (rc x288 a1 x283) fun r295 =>
  bnd (loopP (m112_14b rc (↑r295.length:Int) r295) (0,s281)) fun v319 =>
  some (.nxt (wadd .i64 s280 1,v319))) (
  some (.out s281))
noncomputable def m112_8b (rc:l6T→(List Int)→Int→Option (List Int))(a1:(List Int))(a0:l6T)(s238:List Int):Option (Ctl (List Int) (List Int)) :=
 ck (0+s238.length≤68719476736) <|
 bnd (loopP (m112_12b rc a1 (↑s238.length:Int) a0 s238) (0,s238)) fun v322 =>
 br (eqI (↑v322.length:Int) (↑s238.length:Int)) (
  some (.out v322)) (
  some (.nxt v322))
noncomputable def m112_2 (rc:l6T→(List Int)→Int→Option (List Int))(a1:(List Int))(a2:Int)(a0:l6T)(v6:Bool):Option (Unit ⊕ List Int) :=
 br v6 (
  bnd (m112_3 rc a1 a2 a0) fun v17 =>
  br v17 (
   some (.inr [wadd .i64 a2 1])) (
   some (.inl ()))) (
  br (eqI a0.kind_ 6) (
   bnd (idx a0.kids_ 0) fun x20 =>
   bnd (rc x20 a1 a2) fun r27 =>
   bnd (idx a0.kids_ 1) fun x28 =>
   bnd (rc x28 a1 a2) fun r35 =>
   bnd (loopP (m112_4b rc (↑r35.length:Int) r35) (0,r27)) fun v59 =>
   some (.inr v59)) (
   br (eqI a0.kind_ 5) (
    bnd (idx a0.kids_ 0) fun x61 =>
    bnd (rc x61 a1 a2) fun r68 =>
    bnd (loopP (m112_5b rc a1 (↑r68.length:Int) a0 r68) (0,[])) fun v150 =>
    some (.inr v150)) (
    br (eqI a0.kind_ 7) (
     bnd (loopP (m112_8b rc a1 a0) [a2]) fun v326 =>
     some (.inr v326)) (
     some (.inl ())))))
noncomputable def m112r (rc:l6T→(List Int)→Int→Option (List Int))(a0:l6T)(a1:(List Int))(a2:Int):Option (List Int) :=
 br (eqI a0.kind_ 2) (
  some [a2]) (
  bnd (m112_1 rc a0 (eqI a0.kind_ 3)) fun v6 =>
  bnd (m112_2 rc a1 a2 a0 v6) fun o=>selS o (fun _ =>
   some []) (fun v329 =>
   some v329))
noncomputable def m112k:Nat→l6T→(List Int)→Int→Option (List Int)
 | 0=>fun _ _ _=>none
 | k+1=>m112r (m112k k)
noncomputable def m112 (a0:l6T)(a1:(List Int))(a2:Int):Option (List Int):=limO (fun k=>m112k k a0 a1 a2)
noncomputable def m79_1b (a1:Int)(a0:(List Int))(p1:Int)(s9:Int):Option (Ctl Int (Unit ⊕ Unit)) :=
 br (ltI s9 p1) (
  bnd (idx a0 s9) fun x11 =>
  br (eqI x11 a1) (
   some (.out (.inr ()))) (
   some (.nxt (wadd .i64 s9 1)))) (
  some (.out (.inl ())))
noncomputable def m79 (a0:(List Int))(a1:Int):Option Bool :=
 bnd (loopP (m79_1b a1 a0 (↑a0.length:Int)) 0) fun o=>selS o (fun _ =>
  some false) (fun _ =>
  some true)
noncomputable def m78_1 (a1:(List Int))(r4:Bool):Option Bool :=
 br r4 (
  bnd (m111 a1) fun r8 =>
  some (!r8)) (
  some true)
noncomputable def m78 (a0:(List ReCell))(a1:(List Int)):Option (Bool×Bool) :=
 bnd (m109 a0) fun p=>sel2 p fun r3 r4 =>
 bnd (m78_1 a1 r4) fun v11 =>
 br v11 (
  some (false,false)) (
  bnd (m112 r3 a1 0) fun r15 =>
  bnd (m79 r15 (↑a1.length:Int)) fun r18 =>
  some (r18,true))
noncomputable def m50_4 (s20:Bool)(a1:Route)(x23:Range):Option Bool :=
 br s20 (
  some true) (
  bnd (m77 x23.prefix_ a1.prefix_) fun r31 =>
  br r31 (
   bnd (m72 a1.prefix_.len x23.lo x23.hi) fun r35 =>
   some r35) (
   some false))
noncomputable def m50_2b (a0:Term)(p3:Int)(a1:Route)(p:(Bool×Int)):Option (Ctl (Bool×Int) Bool) :=
 sel2 p fun s20 s21 =>
 br (ltI s21 p3) (
  bnd (idx a0.ranges s21) fun x23 =>
  bnd (m50_4 s20 a1 x23) fun v38 =>
  some (.nxt (v38,wadd .i64 s21 1))) (
  some (.out s20))
noncomputable def m50_1 (p1:Bool)(a0:Term)(a1:Route):Option (Unit ⊕ Unit) :=
 br p1 (
  bnd (loopP (m50_2b a0 (↑a0.ranges.length:Int) a1) (false,0)) fun v41 =>
  br v41 (
   some (.inl ())) (
   some (.inr ()))) (
  some (.inl ()))
noncomputable def m50_5 (p45:Bool)(a0:Term)(a1:Route):Option (Unit ⊕ Unit) :=
 br p45 (
  bnd (m78 a0.path a1.attrs.path) fun p=>sel2 p fun r49 r50 =>
  br r49 (
   some (.inl ())) (
   some (.inr ()))) (
  some (.inl ()))
noncomputable def m50_6 (a0:Term)(a1:Route):Option Bool :=
 br (eqI a0.comm (-1)) (
  some true) (
  bnd (m79 a1.attrs.comms a0.comm) fun r57 =>
  some r57)
noncomputable def m50 (a0:Term)(a1:Route):Option Bool :=
 bnd (m50_1 (ltI 0 (↑a0.ranges.length:Int)) a0 a1) fun o=>selS o (fun _ =>
  bnd (m50_5 (ltI 0 (↑a0.path.length:Int)) a0 a1) fun o=>selS o (fun _ =>
   bnd (m50_6 a0 a1) fun v60 =>
   some v60) (fun _ =>
   some false)) (fun _ =>
  some false)
noncomputable def m51_7 (x31:Int)(p36:Bool)(s29:List Int):Option (List Int) :=
 br p36 (
  ck (s29.length+1≤68719476736) <|
  some (s29++[x31])) (
  some s29)
noncomputable def m51_5b (a1:Route)(p16:Int)(a0:Acn)(p:(Int×List Int)):Option (Ctl (Int×List Int) (List Int)) :=
 sel2 p fun s28 s29 =>
 br (ltI s28 p16) (
  bnd (idx a1.attrs.comms s28) fun x31 =>
  bnd (m51_7 x31 (!(eqI x31 a0.n)) s29) fun v41 =>
  some (.nxt (wadd .i64 s28 1,v41))) (
  some (.out s29))
noncomputable def m51_8 (p45:Bool)(a0:Acn)(a1:Route)(r3:Attrs):Option (List Int) :=
 br p45 (
  ck (1+a1.attrs.path.length≤68719476736) <|
  some ([a0.n]++a1.attrs.path)) (
  some r3.path)
noncomputable def m51_4 (a0:Acn)(p14:Bool)(a1:Route)(r3:Attrs):Option (List Int×List Int) :=
 br p14 (
  bnd (loopP (m51_5b a1 (↑a1.attrs.comms.length:Int) a0) (0,[])) fun v44 =>
  some (r3.path,v44)) (
  bnd (m51_8 (eqI a0.kind 5) a0 a1 r3) fun v50 =>
  some (v50,r3.comms))
noncomputable def m51_3 (a0:Acn)(p9:Bool)(a1:Route)(r3:Attrs):Option (List Int×List Int) :=
 br p9 (
  bnd (m80 r3.comms a0.n) fun r13 =>
  some (r3.path,r13)) (
  bnd (m51_4 a0 (eqI a0.kind 4) a1 r3) fun p=>sel2 p fun v53 v54 =>
  some (v53,v54))
noncomputable def m51_2 (a0:Acn)(p7:Bool)(a1:Route)(r3:Attrs):Option (Int×List Int×List Int) :=
 br p7 (
  some (a0.n,r3.path,r3.comms)) (
  bnd (m51_3 a0 (eqI a0.kind 3) a1 r3) fun p=>sel2 p fun v57 v58 =>
  some (r3.med,v57,v58))
noncomputable def m51_1 (a0:Acn)(p4:Bool)(a1:Route)(r3:Attrs):Option (Int×Int×List Int×List Int) :=
 br p4 (
  some (r3.med,a0.n,r3.path,r3.comms)) (
  bnd (m51_2 a0 (eqI a0.kind 2) a1 r3) fun p=>sel3 p fun v61 v62 v63 =>
  some (v61,r3.pref,v62,v63))
noncomputable def m51 (a0:Acn)(a1:Route):Option Route :=
 bnd (m52 a1.attrs) fun r3 =>
 bnd (m51_1 a0 (eqI a0.kind 1) a1 r3) fun p=>sel4 p fun v66 v67 v68 v69 =>
 some (⟨a1.prefix_,(⟨r3.origin,v68,r3.next,v66,v67,v69⟩:Attrs)⟩:Route)
noncomputable def m27_9 (r154:Bool)(s136:Prefix)(s137:Int)(s138:Int)(s139:Int)(s140:Int)(s141:List Int)(s142:List Int)(r151:Route):Option (Prefix×Int×Int×Int×Int×List Int×List Int) :=
 br r154 (
  some (r151.prefix_,r151.attrs.origin,r151.attrs.next,r151.attrs.med,r151.attrs.pref,r151.attrs.path,r151.attrs.comms)) (
  some (s136,s137,s138,s139,s140,s141,s142))
noncomputable def m27_7b (x103:Term)(p112:Int)(p:(Int×Prefix×Int×Int×Int×Int×List Int×List Int)):Option (Ctl (Int×Prefix×Int×Int×Int×Int×List Int×List Int) (Prefix×Int×Int×Int×Int×List Int×List Int)) :=
 sel8 p fun s135 s136 s137 s138 s139 s140 s141 s142 =>
 br (ltI s135 p112) (
  bnd (idx x103.acts s135) fun x144 =>
  bnd (m51 x144 (⟨s136,(⟨s137,s141,s138,s139,s140,s142⟩:Attrs)⟩:Route)) fun r151 =>
  bnd (m26 r151) fun r154 =>
  bnd (m27_9 r154 s136 s137 s138 s139 s140 s141 s142 r151) fun p=>sel7 p fun v158 v159 v160 v161 v162 v163 v164 =>
  some (.nxt (wadd .i64 s135 1,v158,v159,v160,v161,v162,v163,v164))) (
  some (.out (s136,s137,s138,s139,s140,s141,s142)))
noncomputable def m27_6 (a0:Policy)(s94:Int)(s95:Prefix)(s96:Int)(s97:Int)(s98:Int)(s99:Int)(s100:List Int)(s101:List Int):Option ((Prefix×Int×Int×Int×Int×List Int×List Int) ⊕ (Int×Prefix×Int×Int×Int×Int×List Int×List Int)) :=
 bnd (idx a0.terms s94) fun x103 =>
 bnd (m50 x103 (⟨s95,(⟨s96,s100,s97,s98,s99,s101⟩:Attrs)⟩:Route)) fun r110 =>
 br r110 (
  bnd (loopP (m27_7b x103 (↑x103.acts.length:Int)) (0,s95,s96,s97,s98,s99,s100,s101)) fun p=>sel7 p fun v167 v168 v169 v170 v171 v172 v173 =>
  br (eqI x103.verdict 1) (
   some (.inr (x103.verdict,v167,v168,v169,v170,v171,v172,v173))) (
   br (eqI x103.verdict 2) (
    some (.inr (x103.verdict,(⟨0,0⟩:Prefix),0,0,0,0,[],[]))) (
    some (.inl (v167,v168,v169,v170,v171,v172,v173))))) (
  some (.inl (s95,s96,s97,s98,s99,s100,s101)))
noncomputable def m27_1b (a0:Policy)(p1:Int)(p:(Int×Prefix×Int×Int×Int×Int×List Int×List Int)):Option (Ctl (Int×Prefix×Int×Int×Int×Int×List Int×List Int) ((Prefix×Int×Int×Int×Int×List Int×List Int) ⊕ (Int×Prefix×Int×Int×Int×Int×List Int×List Int))) :=
 sel8 p fun s94 s95 s96 s97 s98 s99 s100 s101 =>
 br (ltI s94 p1) (
  bnd (m27_6 a0 s94 s95 s96 s97 s98 s99 s100 s101) fun o=>selS o (fun p=>sel7 p fun v178 v179 v180 v181 v182 v183 v184 =>
   some (.nxt (wadd .i64 s94 1,v178,v179,v180,v181,v182,v183,v184))) (fun p=>sel8 p fun v185 v186 v187 v188 v189 v190 v191 v192 =>
   some (.out (.inr (v185,v186,v187,v188,v189,v190,v191,v192))))) (
  some (.out (.inl (s95,s96,s97,s98,s99,s100,s101))))
noncomputable def m27 (a0:Policy)(a1:Route):Option (Int×Prefix×Int×Int×Int×Int×List Int×List Int) :=
 bnd (loopP (m27_1b a0 (↑a0.terms.length:Int)) (0,a1.prefix_,a1.attrs.origin,a1.attrs.next,a1.attrs.med,a1.attrs.pref,a1.attrs.path,a1.attrs.comms)) fun o=>selS o (fun p=>sel7 p fun v195 v196 v197 v198 v199 v200 v201 =>
  br a0.accept (
   some (1,v195,v196,v197,v198,v199,v200,v201)) (
   some (2,(⟨0,0⟩:Prefix),0,0,0,0,[],[]))) (fun p=>sel8 p fun v203 v204 v205 v206 v207 v208 v209 v210 =>
  some (v203,v204,v205,v206,v207,v208,v209,v210))
noncomputable def m17_1 (a1:(List Route))(a0:Policy):Option Bool :=
 bnd (m25 a0) fun r3 =>
 br r3 (
  some (ltI 30 (↑a1.length:Int))) (
  some true)
noncomputable def m17_4 (p66:Bool)(s42:List Route)(r59:Prefix)(r60:Int)(r61:Int)(r62:Int)(r63:Int)(r64:List Int)(r65:List Int):Option (List Route) :=
 br p66 (
  bnd (m28 (⟨r59,(⟨r60,r64,r61,r62,r63,r65⟩:Attrs)⟩:Route)) fun r70 =>
  ck (s42.length+1≤68719476736) <|
  some (s42++[r70])) (
  some s42)
noncomputable def m17_2b (a1:(List Route))(p9:Int)(a0:Policy)(p:(Int×List Route)):Option (Ctl (Int×List Route) (List Route ⊕ Unit)) :=
 sel2 p fun s41 s42 =>
 br (ltI s41 p9) (
  bnd (idx a1 s41) fun x44 =>
  bnd (m26 x44) fun r51 =>
  br r51 (
   bnd (m28 x44) fun r55 =>
   bnd (m27 a0 r55) fun p=>sel8 p fun r58 r59 r60 r61 r62 r63 r64 r65 =>
   bnd (m17_4 (eqI r58 1) s42 r59 r60 r61 r62 r63 r64 r65) fun v74 =>
   some (.nxt (wadd .i64 s41 1,v74))) (
   some (.out (.inr ())))) (
  some (.out (.inl s42)))
noncomputable def m17 (a0:Policy)(a1:(List Route)):Option ((List Route)×Bool) :=
 bnd (m17_1 a1 a0) fun v7 =>
 br v7 (
  some ([],false)) (
  bnd (loopP (m17_2b a1 (↑a1.length:Int) a0) (0,[])) fun o=>selS o (fun v77 =>
   some (v77,true)) (fun _ =>
   some ([],false)))
noncomputable def m84_1b (a0:(List Term))(p1:Int)(a1:(Term→Option Bool))(s12:Int):Option (Ctl Int (Unit ⊕ Int)) :=
 br (ltI s12 p1) (
  bnd (idx a0 s12) fun x14 =>
  bnd (a1 x14) fun r19 =>
  br r19 (
   some (.out (.inr s12))) (
   some (.nxt (wadd .i64 s12 1)))) (
  some (.out (.inl ())))
noncomputable def m84 (a0:(List Term))(a1:(Term→Option Bool)):Option Int :=
 bnd (loopP (m84_1b a0 (↑a0.length:Int) a1) 0) fun o=>selS o (fun _ =>
  some (-1)) (fun v25 =>
  some v25)
noncomputable def m55 (a0:(List Term))(a1:(Term→Option Bool)):Option Bool :=
 bnd (m84 a0 a1) fun r3 =>
 some (leI 0 r3)
noncomputable def m87_1 (a0:Int)(a1:Int)(a2:Int):Option Bool :=
 br (leI a1 a0) (
  some (leI a0 a2)) (
  some false)
noncomputable def m87 (a0:Int)(a1:Int)(a2:Int):Option Bool :=
 bnd (m87_1 a0 a1 a2) fun v4 =>
 some v4
noncomputable def m140_3 (a0:Int)(p5:Bool):Option Bool :=
 br p5 (
  some p5) (
  some (eqI a0 4))
noncomputable def m140_2 (a0:Int)(p3:Bool):Option Bool :=
 br p3 (
  some p3) (
  bnd (m140_3 a0 (eqI a0 3)) fun v9 =>
  some v9)
noncomputable def m140_1 (a0:Int)(p1:Bool):Option Bool :=
 br p1 (
  some p1) (
  bnd (m140_2 a0 (eqI a0 2)) fun v12 =>
  some v12)
noncomputable def m140_4 (a0:Int)(p18:Bool):Option Bool :=
 br p18 (
  some p18) (
  some (eqI a0 6))
noncomputable def m140 (a0:Int):Option Int :=
 bnd (m140_1 a0 (eqI a0 1)) fun v15 =>
 br v15 (
  some 0) (
  br (eqI a0 7) (
   some 1) (
   bnd (m140_4 a0 (eqI a0 5)) fun v22 =>
   br v22 (
    some 2) (
    some (-1))))
noncomputable def m116_1b (a0:(List ReCell))(a1:Int)(p:(Int×Int)):Option (Ctl (Int×Int) (Unit ⊕ Int)) :=
 sel2 p fun s12 s13 =>
 br (ltI s13 (↑a0.length:Int)) (
  bnd (idx a0 s13) fun x15 =>
  bnd (m140 x15.kind) fun r22 =>
  br (ltI r22 0) (
   some (.out (.inr (-1)))) (
   br (eqI (wadd .i64 s12 (wsub .i64 r22 1)) 0) (
    some (.out (.inr (wsub .i64 (wadd .i64 s13 1) a1)))) (
    some (.nxt (wadd .i64 s12 (wsub .i64 r22 1),wadd .i64 s13 1))))) (
  some (.out (.inl ())))
noncomputable def m116 (a0:(List ReCell))(a1:Int):Option Int :=
 bnd (loopP (m116_1b a0 a1) (1,a1)) fun o=>selS o (fun _ =>
  some (-1)) (fun v27 =>
  some v27)
noncomputable def m141_1b (a0:(List ReCell))(p1:Int)(a1:(ReCell→Option Bool))(s12:Int):Option (Ctl Int (Unit ⊕ Int)) :=
 br (ltI s12 p1) (
  bnd (idx a0 s12) fun x14 =>
  bnd (a1 x14) fun r19 =>
  br r19 (
   some (.out (.inr s12))) (
   some (.nxt (wadd .i64 s12 1)))) (
  some (.out (.inl ())))
noncomputable def m141 (a0:(List ReCell))(a1:(ReCell→Option Bool)):Option Int :=
 bnd (loopP (m141_1b a0 (↑a0.length:Int) a1) 0) fun o=>selS o (fun _ =>
  some (-1)) (fun v25 =>
  some v25)
noncomputable def m117 (a0:(List ReCell))(a1:(ReCell→Option Bool)):Option Bool :=
 bnd (m141 a0 a1) fun r3 =>
 some (leI 0 r3)
noncomputable def m119 (a0:Int):Option Bool :=
 bnd (m87 a0 1 65535) fun r3 =>
 some r3
noncomputable def m118_1 (a0:ReCell):Option Bool :=
 br (eqI a0.kind 3) (
  bnd (m119 a0.n) fun r4 =>
  br r4 (
   some false) (
   some true)) (
  some (!(eqI a0.n 0)))
noncomputable def m118 (a0:ReCell):Option Bool :=
 bnd (m118_1 a0) fun v8 =>
 some v8
noncomputable def m85_1 (a0:(List ReCell)):Option Bool :=
 bnd (m87 (↑a0.length:Int) 1 30) fun r3 =>
 br r3 (
  bnd (m116 a0 0) fun r7 =>
  some (!(eqI r7 (↑a0.length:Int)))) (
  some true)
noncomputable def m85 (a0:(List ReCell)):Option Bool :=
 bnd (m85_1 a0) fun v10 =>
 br v10 (
  some false) (
  bnd (m117 a0 (fun y0=>m118 y0)) fun r14 =>
  some (!r14))
noncomputable def m86 (a0:Int):Option Bool :=
 bnd (m87 a0 0 1000000) fun r3 =>
 some r3
noncomputable def m120_1b (a0:(List Range))(p1:Int)(a1:(Range→Option Bool))(s12:Int):Option (Ctl Int (Unit ⊕ Int)) :=
 br (ltI s12 p1) (
  bnd (idx a0 s12) fun x14 =>
  bnd (a1 x14) fun r19 =>
  br r19 (
   some (.out (.inr s12))) (
   some (.nxt (wadd .i64 s12 1)))) (
  some (.out (.inl ())))
noncomputable def m120 (a0:(List Range))(a1:(Range→Option Bool)):Option Int :=
 bnd (loopP (m120_1b a0 (↑a0.length:Int) a1) 0) fun o=>selS o (fun _ =>
  some (-1)) (fun v25 =>
  some v25)
noncomputable def m88 (a0:(List Range))(a1:(Range→Option Bool)):Option Bool :=
 bnd (m120 a0 a1) fun r3 =>
 some (leI 0 r3)
noncomputable def m93 (a0:Int):Option Bool :=
 bnd (m87 a0 0 4294967295) fun r3 =>
 some r3
noncomputable def m94 (a0:Int):Option Int :=
 ck (¬(wsub .i64 32 a0)<0) <|
 some (wshl .i64 1 (wsub .i64 32 a0))
noncomputable def m58_1 (a0:Prefix):Option Bool :=
 bnd (m87 a0.len 0 32) fun r3 =>
 br r3 (
  bnd (m93 a0.addr) fun r7 =>
  br r7 (
   bnd (m94 a0.len) fun r11 =>
   ck (¬r11=0) <|
   some (eqI (wrem .i64 a0.addr r11) 0)) (
   some false)) (
  some false)
noncomputable def m58 (a0:Prefix):Option Bool :=
 bnd (m58_1 a0) fun v15 =>
 some v15
noncomputable def m89_1 (a0:Range):Option Bool :=
 bnd (m58 a0.prefix_) fun r3 =>
 br r3 (
  br (ltI a0.lo a0.prefix_.len) (
   some true) (
   br (ltI a0.hi a0.lo) (
    some true) (
    some (ltI 32 a0.hi)))) (
  some true)
noncomputable def m89 (a0:Range):Option Bool :=
 bnd (m89_1 a0) fun v9 =>
 some v9
noncomputable def m121_1b (a0:(List Acn))(p1:Int)(a1:(Acn→Option Bool))(s12:Int):Option (Ctl Int (Unit ⊕ Int)) :=
 br (ltI s12 p1) (
  bnd (idx a0 s12) fun x14 =>
  bnd (a1 x14) fun r19 =>
  br r19 (
   some (.out (.inr s12))) (
   some (.nxt (wadd .i64 s12 1)))) (
  some (.out (.inl ())))
noncomputable def m121 (a0:(List Acn))(a1:(Acn→Option Bool)):Option Int :=
 bnd (loopP (m121_1b a0 (↑a0.length:Int) a1) 0) fun o=>selS o (fun _ =>
  some (-1)) (fun v25 =>
  some v25)
noncomputable def m90 (a0:(List Acn))(a1:(Acn→Option Bool)):Option Bool :=
 bnd (m121 a0 a1) fun r3 =>
 some (leI 0 r3)
noncomputable def m92_3 (a0:Acn)(p5:Bool):Option Bool :=
 br p5 (
  some p5) (
  some (eqI a0.kind 4))
noncomputable def m92_2 (a0:Acn)(p3:Bool):Option Bool :=
 br p3 (
  some p3) (
  bnd (m92_3 a0 (eqI a0.kind 3)) fun v9 =>
  some v9)
noncomputable def m92_1 (a0:Acn)(p1:Bool):Option Bool :=
 br p1 (
  some p1) (
  bnd (m92_2 a0 (eqI a0.kind 2)) fun v12 =>
  some v12)
noncomputable def m92 (a0:Acn):Option Bool :=
 bnd (m92_1 a0 (eqI a0.kind 1)) fun v15 =>
 br v15 (
  bnd (m86 a0.n) fun r19 =>
  some r19) (
  br (eqI a0.kind 5) (
   bnd (m119 a0.n) fun r23 =>
   some r23) (
   some false))
noncomputable def m91 (a0:Acn):Option Bool :=
 bnd (m92 a0) fun r3 =>
 some (!r3)
noncomputable def m57_1 (a0:Term):Option Bool :=
 br (ltI 6 (↑a0.ranges.length:Int)) (
  some true) (
  br (ltI 0 (↑a0.path.length:Int)) (
   bnd (m85 a0.path) fun r5 =>
   br r5 (
    br (eqI a0.comm (-1)) (
     br (ltI 5 (↑a0.acts.length:Int)) (
      some true) (
      bnd (m87 a0.verdict 0 2) fun r11 =>
      some (!r11))) (
     bnd (m86 a0.comm) fun r14 =>
     br r14 (
      br (ltI 5 (↑a0.acts.length:Int)) (
       some true) (
       bnd (m87 a0.verdict 0 2) fun r19 =>
       some (!r19))) (
      some true))) (
    some true)) (
   br (eqI a0.comm (-1)) (
    br (ltI 5 (↑a0.acts.length:Int)) (
     some true) (
     bnd (m87 a0.verdict 0 2) fun r24 =>
     some (!r24))) (
    bnd (m86 a0.comm) fun r27 =>
    br r27 (
     br (ltI 5 (↑a0.acts.length:Int)) (
      some true) (
      bnd (m87 a0.verdict 0 2) fun r32 =>
      some (!r32))) (
     some true))))
noncomputable def m57_2 (a0:Term):Option Bool :=
 bnd (m88 a0.ranges (fun y0=>m89 y0)) fun r39 =>
 br r39 (
  some false) (
  bnd (m90 a0.acts (fun y0=>m91 y0)) fun r43 =>
  some (!r43))
noncomputable def m57 (a0:Term):Option Bool :=
 bnd (m57_1 a0) fun v35 =>
 br v35 (
  some false) (
  bnd (m57_2 a0) fun v46 =>
  some v46)
noncomputable def m56 (a0:Term):Option Bool :=
 bnd (m57 a0) fun r3 =>
 some (!r3)
noncomputable def m32_1 (a0:Policy):Option Bool :=
 br (leI (↑a0.terms.length:Int) 8) (
  bnd (m55 a0.terms (fun y0=>m56 y0)) fun r4 =>
  some (!r4)) (
  some false)
noncomputable def m32 (a0:Policy):Option Bool :=
 bnd (m32_1 a0) fun v7 =>
 some v7
noncomputable def m68_1b (a0:(List Route))(p1:Int)(a1:(Route→Option Bool))(s12:Int):Option (Ctl Int (Unit ⊕ Int)) :=
 br (ltI s12 p1) (
  bnd (idx a0 s12) fun x14 =>
  bnd (a1 x14) fun r19 =>
  br r19 (
   some (.out (.inr s12))) (
   some (.nxt (wadd .i64 s12 1)))) (
  some (.out (.inl ())))
noncomputable def m68 (a0:(List Route))(a1:(Route→Option Bool)):Option Int :=
 bnd (loopP (m68_1b a0 (↑a0.length:Int) a1) 0) fun o=>selS o (fun _ =>
  some (-1)) (fun v25 =>
  some v25)
noncomputable def m41 (a0:(List Route))(a1:(Route→Option Bool)):Option Bool :=
 bnd (m68 a0 a1) fun r3 =>
 some (leI 0 r3)
noncomputable def m135_1b (a0:(List Int))(p1:Int)(a1:(Int→Option Bool))(s12:Int):Option (Ctl Int (Unit ⊕ Int)) :=
 br (ltI s12 p1) (
  bnd (idx a0 s12) fun x14 =>
  bnd (a1 x14) fun r19 =>
  br r19 (
   some (.out (.inr s12))) (
   some (.nxt (wadd .i64 s12 1)))) (
  some (.out (.inl ())))
noncomputable def m135 (a0:(List Int))(a1:(Int→Option Bool)):Option Int :=
 bnd (loopP (m135_1b a0 (↑a0.length:Int) a1) 0) fun o=>selS o (fun _ =>
  some (-1)) (fun v25 =>
  some v25)
noncomputable def m122 (a0:(List Int))(a1:(Int→Option Bool)):Option Bool :=
 bnd (m135 a0 a1) fun r3 =>
 some (leI 0 r3)
noncomputable def m123 (a0:Int):Option Bool :=
 bnd (m119 a0) fun r3 =>
 some (!r3)
noncomputable def m95_1 (a0:(List Int)):Option Bool :=
 br (leI (↑a0.length:Int) 10) (
  bnd (m122 a0 (fun y0=>m123 y0)) fun r4 =>
  some (!r4)) (
  some false)
noncomputable def m95 (a0:(List Int)):Option Bool :=
 bnd (m95_1 a0) fun v7 =>
 some v7
noncomputable def m96_3 (a0:(List Int))(s22:Int)(x24:Int):Option Bool :=
 bnd (m86 x24) fun r31 =>
 br r31 (
  br (ltI 0 s22) (
   bnd (idx a0 (wsub .i64 s22 1)) fun x34 =>
   some (leI x24 x34)) (
   some false)) (
  some true)
noncomputable def m96_1b (a0:(List Int))(p1:Int)(s22:Int):Option (Ctl Int (Unit ⊕ Unit)) :=
 br (ltI s22 p1) (
  bnd (idx a0 s22) fun x24 =>
  bnd (m96_3 a0 s22 x24) fun v41 =>
  br v41 (
   some (.out (.inr ()))) (
   some (.nxt (wadd .i64 s22 1)))) (
  some (.out (.inl ())))
noncomputable def m96 (a0:(List Int)):Option Bool :=
 bnd (loopP (m96_1b a0 (↑a0.length:Int)) 0) fun o=>selS o (fun _ =>
  some (leI (↑a0.length:Int) 6)) (fun _ =>
  some false)
noncomputable def m59_1 (a0:Attrs):Option Bool :=
 bnd (m87 a0.origin 0 2) fun r3 =>
 br r3 (
  bnd (m95 a0.path) fun r7 =>
  br r7 (
   bnd (m93 a0.next) fun r11 =>
   br r11 (
    bnd (m86 a0.med) fun r15 =>
    br r15 (
     bnd (m86 a0.pref) fun r19 =>
     br r19 (
      bnd (m96 a0.comms) fun r23 =>
      some r23) (
      some false)) (
     some false)) (
    some false)) (
   some false)) (
  some false)
noncomputable def m59 (a0:Attrs):Option Bool :=
 bnd (m59_1 a0) fun v26 =>
 some v26
noncomputable def m33_1 (a0:Route):Option Bool :=
 bnd (m58 a0.prefix_) fun r3 =>
 br r3 (
  bnd (m59 a0.attrs) fun r7 =>
  some r7) (
  some false)
noncomputable def m33 (a0:Route):Option Bool :=
 bnd (m33_1 a0) fun v10 =>
 some v10
noncomputable def m42 (a0:Route):Option Bool :=
 bnd (m33 a0) fun r3 =>
 some (!r3)
noncomputable def m124 (a0:(List Int)):Option (List Int) :=
 ck (0+a0.length≤68719476736) <|
 some a0
noncomputable def m97 (a0:Attrs):Option Attrs :=
 bnd (m124 a0.path) fun r3 =>
 bnd (m124 a0.comms) fun r6 =>
 some (⟨a0.origin,r3,a0.next,a0.med,a0.pref,r6⟩:Attrs)
noncomputable def m60 (a0:Route):Option Route :=
 bnd (m97 a0.attrs) fun r3 =>
 some (⟨a0.prefix_,r3⟩:Route)
noncomputable def m130_1b (a0:(List Int))(a1:Int)(p1:Int)(s9:Int):Option (Ctl Int (Unit ⊕ Int)) :=
 br (ltI s9 p1) (
  bnd (idx a0 s9) fun x11 =>
  br (eqI a1 x11) (
   some (.out (.inr s9))) (
   some (.nxt (wadd .i64 s9 1)))) (
  some (.out (.inl ())))
noncomputable def m130 (a0:(List Int))(a1:Int):Option Int :=
 bnd (loopP (m130_1b a0 a1 (↑a0.length:Int)) 0) fun o=>selS o (fun _ =>
  some (-1)) (fun v19 =>
  some v19)
noncomputable def m101 (a0:(List Int))(a1:Int):Option Bool :=
 bnd (m130 a0 a1) fun r3 =>
 some (leI 0 r3)
noncomputable def m126_1b (rc:(List ReCell)→Option (pattern×(List ReCell)))(r9:Int)(p:(List ReCell×Int×List pattern)):Option (Ctl (List ReCell×Int×List pattern) (List ReCell×List pattern)) :=
 sel3 p fun s16 s17 s18 =>
 br (ltI s17 r9) (
  bnd (rc s16) fun p=>sel2 p fun r22 r23 =>
  ck (s18.length+1≤68719476736) <|
  some (.nxt (r23,wadd .i64 s17 1,s18++[r22]))) (
  some (.out (s16,s18)))
noncomputable def m126r (rc:(List ReCell)→Option (pattern×(List ReCell)))(a0:(List ReCell)):Option (pattern×(List ReCell)) :=
 bnd (idx a0 0) fun x1 =>
 ck (0≤1∧1≤(↑a0.length:Int)) <|
 bnd (m140 x1.kind) fun r9 =>
 bnd (loopP (m126_1b rc r9) (a0.drop 1,0,[])) fun p=>sel2 p fun v27 v28 =>
 some ((⟨x1,v28⟩:pattern),v27)
noncomputable def m126k:Nat→(List ReCell)→Option (pattern×(List ReCell))
 | 0=>fun _=>none
 | k+1=>m126r (m126k k)
noncomputable def m126 (a0:(List ReCell)):Option (pattern×(List ReCell)):=limO (fun k=>m126k k a0)
noncomputable def m143 (a0:Int)(a1:(List pattern)):Option pattern :=
 some (⟨(⟨a0,0⟩:ReCell),a1⟩:pattern)
noncomputable def m129_1 (rc:pattern→Option Bool)(a0:pattern)(p1:Bool):Option Bool :=
 br p1 (
  some p1) (
  some (eqI a0.cell.kind 7))
noncomputable def m129_2 (rc:pattern→Option Bool)(a0:pattern):Option Bool :=
 bnd (idx a0.parts 0) fun x8 =>
 bnd (rc x8) fun r15 =>
 br r15 (
  bnd (idx a0.parts 1) fun x17 =>
  bnd (rc x17) fun r24 =>
  some r24) (
  some false)
noncomputable def m129_3 (rc:pattern→Option Bool)(a0:pattern):Option Bool :=
 bnd (idx a0.parts 0) fun x29 =>
 bnd (rc x29) fun r36 =>
 br r36 (
  some true) (
  bnd (idx a0.parts 1) fun x38 =>
  bnd (rc x38) fun r45 =>
  some r45)
noncomputable def m129r (rc:pattern→Option Bool)(a0:pattern):Option Bool :=
 bnd (m129_1 rc a0 (eqI a0.cell.kind 2)) fun v5 =>
 br v5 (
  some true) (
  br (eqI a0.cell.kind 5) (
   bnd (m129_2 rc a0) fun v27 =>
   some v27) (
   br (eqI a0.cell.kind 6) (
    bnd (m129_3 rc a0) fun v48 =>
    some v48) (
    some false)))
noncomputable def m129k:Nat→pattern→Option Bool
 | 0=>fun _=>none
 | k+1=>m129r (m129k k)
noncomputable def m129 (a0:pattern):Option Bool:=limO (fun k=>m129k k a0)
noncomputable def m127_1 (rc:pattern→Int→Option pattern)(a0:pattern)(a1:Int)(p5:Bool):Option (Unit ⊕ pattern) :=
 br p5 (
  br (eqI a0.cell.n a1) (
   bnd (m143 2 []) fun r10 =>
   some (.inr r10)) (
   some (.inl ()))) (
  br (eqI a0.cell.kind 6) (
   bnd (idx a0.parts 0) fun x12 =>
   bnd (rc x12 a1) fun r19 =>
   bnd (idx a0.parts 1) fun x20 =>
   bnd (rc x20 a1) fun r27 =>
   bnd (m143 6 [r19,r27]) fun r30 =>
   some (.inr r30)) (
   br (eqI a0.cell.kind 7) (
    bnd (idx a0.parts 0) fun x32 =>
    bnd (rc x32 a1) fun r39 =>
    bnd (m143 5 [r39,a0]) fun r42 =>
    some (.inr r42)) (
    br (eqI a0.cell.kind 5) (
     bnd (idx a0.parts 0) fun x44 =>
     bnd (rc x44 a1) fun r51 =>
     bnd (idx a0.parts 1) fun x52 =>
     bnd (m143 5 [r51,x52]) fun r59 =>
     bnd (m129 x44) fun r62 =>
     br r62 (
      bnd (rc x52 a1) fun r66 =>
      bnd (m143 6 [r59,r66]) fun r69 =>
      some (.inr r69)) (
      some (.inr r59))) (
     some (.inl ())))))
noncomputable def m127r (rc:pattern→Int→Option pattern)(a0:pattern)(a1:Int):Option pattern :=
 br (eqI a0.cell.kind 4) (
  bnd (m143 2 []) fun r4 =>
  some r4) (
  bnd (m127_1 rc a0 a1 (eqI a0.cell.kind 3)) fun o=>selS o (fun _ =>
   bnd (m143 1 []) fun r74 =>
   some r74) (fun v75 =>
   some v75))
noncomputable def m127k:Nat→pattern→Int→Option pattern
 | 0=>fun _ _=>none
 | k+1=>m127r (m127k k)
noncomputable def m127 (a0:pattern)(a1:Int):Option pattern:=limO (fun k=>m127k k a0 a1)
noncomputable def m144 (a0:Int)(a1:Int)(a2:pattern):Option Bool :=
 bnd (idx a2.parts a0) fun x1 =>
 some (eqI x1.cell.kind a1)
noncomputable def m146_1b (rc:pattern→Option (List ReCell))(a0:pattern)(p1:Int)(p:(Int×List ReCell)):Option (Ctl (Int×List ReCell) (List ReCell)) :=
 sel2 p fun s13 s14 =>
 br (ltI s13 p1) (
  bnd (idx a0.parts s13) fun x16 =>
  bnd (rc x16) fun r23 =>
  ck (s14.length+r23.length≤68719476736) <|
  some (.nxt (wadd .i64 s13 1,s14++r23))) (
  some (.out s14))
noncomputable def m146r (rc:pattern→Option (List ReCell))(a0:pattern):Option (List ReCell) :=
 bnd (loopP (m146_1b rc a0 (↑a0.parts.length:Int)) (0,[a0.cell])) fun v27 =>
 some v27
noncomputable def m146k:Nat→pattern→Option (List ReCell)
 | 0=>fun _=>none
 | k+1=>m146r (m146k k)
noncomputable def m146 (a0:pattern):Option (List ReCell):=limO (fun k=>m146k k a0)
noncomputable def m145_1b (a0:(List ReCell))(a1:(List ReCell))(p2:Int)(s15:Int):Option (Ctl Int (Unit ⊕ Unit)) :=
 br (ltI s15 p2) (
  bnd (idx a0 s15) fun x17 =>
  bnd (idx a1 s15) fun x22 =>
  br (eqI x17.kind x22.kind&&eqI x17.n x22.n) (
   some (.nxt (wadd .i64 s15 1))) (
   some (.out (.inr ())))) (
  some (.out (.inl ())))
noncomputable def m145 (a0:(List ReCell))(a1:(List ReCell)):Option Bool :=
 br (eqI (↑a0.length:Int) (↑a1.length:Int)) (
  bnd (loopP (m145_1b a0 a1 (↑a0.length:Int)) 0) fun o=>selS o (fun _ =>
   some true) (fun _ =>
   some false)) (
  some false)
noncomputable def m128_1b (rc:pattern→Option pattern)(a0:pattern)(p1:Int)(p:(Int×List pattern)):Option (Ctl (Int×List pattern) (List pattern)) :=
 sel2 p fun s11 s12 =>
 br (ltI s11 p1) (
  bnd (idx a0.parts s11) fun x14 =>
  bnd (rc x14) fun r21 =>
  ck (s12.length+1≤68719476736) <|
  some (.nxt (wadd .i64 s11 1,s12++[r21]))) (
  some (.out s12))
noncomputable def m128_3 (rc:pattern→Option pattern)(p27:pattern):Option Bool :=
 bnd (m144 0 1 p27) fun r31 =>
 br r31 (
  some true) (
  bnd (m144 1 1 p27) fun r35 =>
  some r35)
noncomputable def m128_5 (rc:pattern→Option pattern)(p27:pattern):Option Bool :=
 bnd (m144 1 1 p27) fun r74 =>
 br r74 (
  some true) (
  bnd (idx p27.parts 0) fun x76 =>
  bnd (m146 x76) fun r83 =>
  bnd (idx p27.parts 1) fun x84 =>
  bnd (m146 x84) fun r91 =>
  bnd (m145 r83 r91) fun r94 =>
  some r94)
noncomputable def m128_7 (rc:pattern→Option pattern)(p27:pattern):Option Bool :=
 bnd (m144 0 1 p27) fun r108 =>
 br r108 (
  some true) (
  bnd (m144 0 2 p27) fun r112 =>
  some r112)
noncomputable def m128_6 (rc:pattern→Option pattern)(p104:Bool)(p27:pattern):Option (Unit ⊕ pattern) :=
 br p104 (
  bnd (m128_7 rc p27) fun v115 =>
  br v115 (
   bnd (m143 2 []) fun r119 =>
   some (.inr r119)) (
   bnd (m144 0 7 p27) fun r122 =>
   br r122 (
    bnd (idx p27.parts 0) fun x124 =>
    some (.inr x124)) (
    some (.inl ())))) (
  some (.inl ()))
noncomputable def m128_4 (rc:pattern→Option pattern)(a0:pattern)(p61:Bool)(p27:pattern):Option (Unit ⊕ pattern) :=
 br p61 (
  bnd (m144 0 1 p27) fun r65 =>
  br r65 (
   bnd (idx p27.parts 1) fun x67 =>
   some (.inr x67)) (
   bnd (m128_5 rc p27) fun v97 =>
   br v97 (
    bnd (idx p27.parts 0) fun x99 =>
    some (.inr x99)) (
    some (.inl ())))) (
  bnd (m128_6 rc (eqI a0.cell.kind 7) p27) fun o=>selS o (fun _ =>
   some (.inl ())) (fun v131 =>
   some (.inr v131)))
noncomputable def m128_2 (rc:pattern→Option pattern)(a0:pattern)(p26:Bool)(p27:pattern):Option (Unit ⊕ pattern) :=
 br p26 (
  bnd (m128_3 rc p27) fun v38 =>
  br v38 (
   bnd (m143 1 []) fun r42 =>
   some (.inr r42)) (
   bnd (m144 0 2 p27) fun r45 =>
   br r45 (
    bnd (idx p27.parts 1) fun x47 =>
    some (.inr x47)) (
    bnd (m144 1 2 p27) fun r54 =>
    br r54 (
     bnd (idx p27.parts 0) fun x56 =>
     some (.inr x56)) (
     some (.inl ()))))) (
  bnd (m128_4 rc a0 (eqI a0.cell.kind 6) p27) fun o=>selS o (fun _ =>
   some (.inl ())) (fun v134 =>
   some (.inr v134)))
noncomputable def m128r (rc:pattern→Option pattern)(a0:pattern):Option pattern :=
 bnd (loopP (m128_1b rc a0 (↑a0.parts.length:Int)) (0,[])) fun v25 =>
 bnd (m128_2 rc a0 (eqI a0.cell.kind 5) (⟨a0.cell,v25⟩:pattern)) fun o=>selS o (fun _ =>
  some (⟨a0.cell,v25⟩:pattern)) (fun v137 =>
  some v137)
noncomputable def m128k:Nat→pattern→Option pattern
 | 0=>fun _=>none
 | k+1=>m128r (m128k k)
noncomputable def m128 (a0:pattern):Option pattern:=limO (fun k=>m128k k a0)
noncomputable def m100_1b (a1:(List Int))(p5:Int)(p:(pattern×Int)):Option (Ctl (pattern×Int) pattern) :=
 sel2 p fun s18 s19 =>
 br (ltI s19 p5) (
  bnd (idx a1 s19) fun x21 =>
  bnd (m127 s18 x21) fun r28 =>
  bnd (m128 r28) fun r31 =>
  some (.nxt (r31,wadd .i64 s19 1))) (
  some (.out s18))
noncomputable def m100 (a0:(List ReCell))(a1:(List Int)):Option Bool :=
 bnd (m126 a0) fun p=>sel2 p fun r3 r4 =>
 bnd (loopP (m100_1b a1 (↑a1.length:Int)) (r3,0)) fun v34 =>
 bnd (m129 v34) fun r37 =>
 some r37
noncomputable def m142 (a0:Prefix):Option Int :=
 bnd (m94 a0.len) fun r3 =>
 some (wsub .i64 (wadd .i64 a0.addr r3) 1)
noncomputable def m125 (a0:Prefix)(a1:Int):Option Bool :=
 bnd (m142 a0) fun r3 =>
 bnd (m87 a1 a0.addr r3) fun r6 =>
 some r6
noncomputable def m99_1 (a0:Prefix)(a1:Prefix):Option Bool :=
 br (leI a0.len a1.len) (
  bnd (m125 a0 a1.addr) fun r4 =>
  some r4) (
  some false)
noncomputable def m99 (a0:Prefix)(a1:Prefix):Option Bool :=
 bnd (m99_1 a0 a1) fun v7 =>
 some v7
noncomputable def m98_1 (a1:Route)(a0:Range):Option Bool :=
 bnd (m99 a0.prefix_ a1.prefix_) fun r3 =>
 br r3 (
  bnd (m87 a1.prefix_.len a0.lo a0.hi) fun r7 =>
  some r7) (
  some false)
noncomputable def m98 (a0:Range)(a1:Route):Option Bool :=
 bnd (m98_1 a1 a0) fun v10 =>
 some v10
noncomputable def m61_1 (a0:Term)(a1:Route):Option Bool :=
 br (eqI (↑a0.ranges.length:Int) 0) (
  br (eqI (↑a0.path.length:Int) 0) (
   br (eqI a0.comm (-1)) (
    some true) (
    bnd (m101 a1.attrs.comms a0.comm) fun r6 =>
    some r6)) (
   bnd (m100 a0.path a1.attrs.path) fun r9 =>
   br r9 (
    br (eqI a0.comm (-1)) (
     some true) (
     bnd (m101 a1.attrs.comms a0.comm) fun r14 =>
     some r14)) (
    some false))) (
  bnd (m88 a0.ranges (fun y0=>m98 y0 a1)) fun r17 =>
  br r17 (
   br (eqI (↑a0.path.length:Int) 0) (
    br (eqI a0.comm (-1)) (
     some true) (
     bnd (m101 a1.attrs.comms a0.comm) fun r23 =>
     some r23)) (
    bnd (m100 a0.path a1.attrs.path) fun r26 =>
    br r26 (
     br (eqI a0.comm (-1)) (
      some true) (
      bnd (m101 a1.attrs.comms a0.comm) fun r31 =>
      some r31)) (
     some false))) (
   some false))
noncomputable def m61 (a0:Term)(a1:Route):Option Bool :=
 bnd (m61_1 a0 a1) fun v34 =>
 some v34
noncomputable def m147 (a0:Int):Option Bool :=
 some (!(eqI a0 a0))
noncomputable def m131_1 (a0:Int)(a1:Int):Option Bool :=
 bnd (m147 a0) fun r3 =>
 br r3 (
  bnd (m147 a1) fun r7 =>
  br r7 (
   some (ltI a0 a1)) (
   some true)) (
  some (ltI a0 a1))
noncomputable def m131 (a0:Int)(a1:Int):Option Bool :=
 bnd (m131_1 a0 a1) fun v11 =>
 some v11
noncomputable def m132 (a0:Int):Option Bool :=
 some (!(eqI a0 a0))
noncomputable def m102_3 (s18:Int)(s19:Int)(p29:Int)(r28:Bool):Option (Int×Int) :=
 br r28 (
  some (wadd .i64 p29 1,s19)) (
  some (s18,p29))
noncomputable def m102_1b (a0:(List Int))(a1:Int)(p:(Int×Int)):Option (Ctl (Int×Int) Int) :=
 sel2 p fun s18 s19 =>
 br (ltI s18 s19) (
  bnd (idx a0 (wcv .i64 (wshr .u64 (wcv .u64 (wadd .i64 s18 s19)) 1))) fun x21 =>
  bnd (m131 x21 a1) fun r28 =>
  bnd (m102_3 s18 s19 (wcv .i64 (wshr .u64 (wcv .u64 (wadd .i64 s18 s19)) 1)) r28) fun p=>sel2 p fun v33 v34 =>
  some (.nxt (v33,v34))) (
  some (.out s18))
noncomputable def m102_4 (a0:(List Int))(a1:Int)(p38:Int)(v37:Int):Option Bool :=
 br (ltI v37 p38) (
  bnd (idx a0 v37) fun x40 =>
  br (eqI x40 a1) (
   some true) (
   bnd (m132 x40) fun r48 =>
   br r48 (
    bnd (m132 a1) fun r52 =>
    some r52) (
    some false))) (
  some false)
noncomputable def m102 (a0:(List Int))(a1:Int):Option (Int×Bool) :=
 bnd (loopP (m102_1b a0 a1) (0,(↑a0.length:Int))) fun v37 =>
 bnd (m102_4 a0 a1 (↑a0.length:Int) v37) fun v55 =>
 some (v37,v55)
noncomputable def m104_3 (s26:Int)(x30:Int)(p38:Bool)(s28:List Int):Option (Int×List Int) :=
 br p38 (
  bnd (idx s28 s26) fun x40 =>
  some (wadd .i64 s26 1,s28.set s26.toNat x30)) (
  some (s26,s28))
noncomputable def m104_1b (a1:(Int→Option Bool))(p:(Int×Int×List Int)):Option (Ctl (Int×Int×List Int) (Int×List Int)) :=
 sel3 p fun s26 s27 s28 =>
 br (ltI s27 (↑s28.length:Int)) (
  bnd (idx s28 s27) fun x30 =>
  bnd (a1 x30) fun r35 =>
  bnd (m104_3 s26 x30 (!r35) s28) fun p=>sel2 p fun v47 v48 =>
  some (.nxt (v47,wadd .i64 s27 1,v48))) (
  some (.out (s26,s28)))
noncomputable def m104 (a0:(List Int))(a1:(Int→Option Bool)):Option (List Int) :=
 bnd (m135 a0 a1) fun r3 =>
 br (eqI r3 (-1)) (
  some a0) (
  bnd (loopP (m104_1b a1) (r3,wadd .i64 r3 1,a0)) fun p=>sel2 p fun v51 v52 =>
  ck (0≤v51∧v51≤(↑v52.length:Int)) <|
  ck (0≤v51∧v51≤(↑(((v52.take v51.toNat).drop 0).take v52.length).length:Int)) <|
  some (v52.take v51.toNat))
noncomputable def m105 (a0:Int)(a1:Acn):Option Bool :=
 some (eqI a0 a1.n)
noncomputable def m62_4 (r13:Int)(p15:Bool)(a0:Acn)(r3:Route):Option (List Int) :=
 br p15 (
  bnd (insP r3.attrs.comms r13 [a0.n]) fun v17 =>
  some v17) (
  some r3.attrs.comms)
noncomputable def m62_6 (p31:Bool)(a0:Acn)(r3:Route):Option (List Int) :=
 br p31 (
  bnd (insP r3.attrs.path 0 [a0.n]) fun v33 =>
  some v33) (
  some r3.attrs.path)
noncomputable def m62_5 (a0:Acn)(p26:Bool)(r3:Route):Option (List Int×List Int) :=
 br p26 (
  bnd (m104 r3.attrs.comms (fun y0=>m105 y0 a0)) fun r30 =>
  some (r3.attrs.path,r30)) (
  bnd (m62_6 (eqI a0.kind 5) a0 r3) fun v41 =>
  some (v41,r3.attrs.comms))
noncomputable def m62_3 (a0:Acn)(p9:Bool)(r3:Route):Option (List Int×List Int) :=
 br p9 (
  bnd (m102 r3.attrs.comms a0.n) fun p=>sel2 p fun r13 r14 =>
  bnd (m62_4 r13 (!r14) a0 r3) fun v25 =>
  some (r3.attrs.path,v25)) (
  bnd (m62_5 a0 (eqI a0.kind 4) r3) fun p=>sel2 p fun v44 v45 =>
  some (v44,v45))
noncomputable def m62_2 (a0:Acn)(p7:Bool)(r3:Route):Option (Int×List Int×List Int) :=
 br p7 (
  some (a0.n,r3.attrs.path,r3.attrs.comms)) (
  bnd (m62_3 a0 (eqI a0.kind 3) r3) fun p=>sel2 p fun v48 v49 =>
  some (r3.attrs.med,v48,v49))
noncomputable def m62_1 (a0:Acn)(p4:Bool)(r3:Route):Option (Int×Int×List Int×List Int) :=
 br p4 (
  some (r3.attrs.med,a0.n,r3.attrs.path,r3.attrs.comms)) (
  bnd (m62_2 a0 (eqI a0.kind 2) r3) fun p=>sel3 p fun v52 v53 v54 =>
  some (v52,r3.attrs.pref,v53,v54))
noncomputable def m62 (a0:Acn)(a1:Route):Option (Route×Bool) :=
 bnd (m60 a1) fun r3 =>
 bnd (m62_1 a0 (eqI a0.kind 1) r3) fun p=>sel4 p fun v57 v58 v59 v60 =>
 bnd (m33 (⟨r3.prefix_,(⟨r3.attrs.origin,v59,r3.attrs.next,v57,v58,v60⟩:Attrs)⟩:Route)) fun r63 =>
 some ((⟨r3.prefix_,(⟨r3.attrs.origin,v59,r3.attrs.next,v57,v58,v60⟩:Attrs)⟩:Route),r63)
noncomputable def m34_1 (a0:Policy):Option Int :=
 br a0.accept (
  some 1) (
  some 2)
noncomputable def m34_10 (r153:Bool)(s137:Prefix)(s138:Int)(s139:Int)(s140:Int)(s141:Int)(s142:List Int)(s143:List Int)(r152:Route):Option (Prefix×Int×Int×Int×Int×List Int×List Int) :=
 br r153 (
  some (r152.prefix_,r152.attrs.origin,r152.attrs.next,r152.attrs.med,r152.attrs.pref,r152.attrs.path,r152.attrs.comms)) (
  some (s137,s138,s139,s140,s141,s142,s143))
noncomputable def m34_8b (x106:Term)(p115:Int)(p:(Int×Prefix×Int×Int×Int×Int×List Int×List Int)):Option (Ctl (Int×Prefix×Int×Int×Int×Int×List Int×List Int) (Prefix×Int×Int×Int×Int×List Int×List Int)) :=
 sel8 p fun s136 s137 s138 s139 s140 s141 s142 s143 =>
 br (ltI s136 p115) (
  bnd (idx x106.acts s136) fun x145 =>
  bnd (m62 x145 (⟨s137,(⟨s138,s142,s139,s140,s141,s143⟩:Attrs)⟩:Route)) fun p=>sel2 p fun r152 r153 =>
  bnd (m34_10 r153 s137 s138 s139 s140 s141 s142 s143 r152) fun p=>sel7 p fun v157 v158 v159 v160 v161 v162 v163 =>
  some (.nxt (wadd .i64 s136 1,v157,v158,v159,v160,v161,v162,v163))) (
  some (.out (s137,s138,s139,s140,s141,s142,s143)))
noncomputable def m34_7 (a0:Policy)(s97:Int)(s98:Prefix)(s99:Int)(s100:Int)(s101:Int)(s102:Int)(s103:List Int)(s104:List Int):Option ((Prefix×Int×Int×Int×Int×List Int×List Int) ⊕ (Int×Prefix×Int×Int×Int×Int×List Int×List Int)) :=
 bnd (idx a0.terms s97) fun x106 =>
 bnd (m61 x106 (⟨s98,(⟨s99,s103,s100,s101,s102,s104⟩:Attrs)⟩:Route)) fun r113 =>
 br r113 (
  bnd (loopP (m34_8b x106 (↑x106.acts.length:Int)) (0,s98,s99,s100,s101,s102,s103,s104)) fun p=>sel7 p fun v166 v167 v168 v169 v170 v171 v172 =>
  br (eqI x106.verdict 0) (
   some (.inl (v166,v167,v168,v169,v170,v171,v172))) (
   some (.inr (x106.verdict,v166,v167,v168,v169,v170,v171,v172)))) (
  some (.inl (s98,s99,s100,s101,s102,s103,s104)))
noncomputable def m34_2b (v8:Int)(a0:Policy)(p9:Int)(p:(Int×Prefix×Int×Int×Int×Int×List Int×List Int)):Option (Ctl (Int×Prefix×Int×Int×Int×Int×List Int×List Int) (Int×Prefix×Int×Int×Int×Int×List Int×List Int)) :=
 sel8 p fun s97 s98 s99 s100 s101 s102 s103 s104 =>
 br (ltI s97 p9) (
  bnd (m34_7 a0 s97 s98 s99 s100 s101 s102 s103 s104) fun o=>selS o (fun p=>sel7 p fun v176 v177 v178 v179 v180 v181 v182 =>
   some (.nxt (wadd .i64 s97 1,v176,v177,v178,v179,v180,v181,v182))) (fun p=>sel8 p fun v183 v184 v185 v186 v187 v188 v189 v190 =>
   some (.out (v183,v184,v185,v186,v187,v188,v189,v190)))) (
  some (.out (v8,s98,s99,s100,s101,s102,s103,s104)))
noncomputable def m34 (a0:Policy)(a1:Route):Option (Route×Int) :=
 bnd (m60 a1) fun r3 =>
 bnd (m34_1 a0) fun v8 =>
 bnd (loopP (m34_2b v8 a0 (↑a0.terms.length:Int)) (0,r3.prefix_,r3.attrs.origin,r3.attrs.next,r3.attrs.med,r3.attrs.pref,r3.attrs.path,r3.attrs.comms)) fun p=>sel8 p fun v193 v194 v195 v196 v197 v198 v199 v200 =>
 br (eqI v193 2) (
  some ((⟨(⟨0,0⟩:Prefix),(⟨0,[],0,0,0,[]⟩:Attrs)⟩:Route),2)) (
  some ((⟨v194,(⟨v195,v199,v196,v197,v198,v200⟩:Attrs)⟩:Route),1))
noncomputable def m19_1 (a1:(List Route))(a0:Policy):Option Bool :=
 bnd (m32 a0) fun r3 =>
 br r3 (
  br (ltI 30 (↑a1.length:Int)) (
   some true) (
   bnd (m41 a1 (fun y0=>m42 y0)) fun r8 =>
   some r8)) (
  some true)
noncomputable def m19_4 (p41:Bool)(s30:List Route)(r39:Route):Option (List Route) :=
 br p41 (
  ck (s30.length+1≤68719476736) <|
  some (s30++[r39])) (
  some s30)
noncomputable def m19_2b (a1:(List Route))(p13:Int)(a0:Policy)(p:(Int×List Route)):Option (Ctl (Int×List Route) (List Route)) :=
 sel2 p fun s29 s30 =>
 br (ltI s29 p13) (
  bnd (idx a1 s29) fun x32 =>
  bnd (m34 a0 x32) fun p=>sel2 p fun r39 r40 =>
  bnd (m19_4 (eqI r40 1) s30 r39) fun v46 =>
  some (.nxt (wadd .i64 s29 1,v46))) (
  some (.out s30))
noncomputable def m19 (a0:Policy)(a1:(List Route)):Option ((List Route)×Bool) :=
 bnd (m19_1 a1 a0) fun v11 =>
 br v11 (
  some ([],false)) (
  bnd (loopP (m19_2b a1 (↑a1.length:Int) a0) (0,[])) fun v49 =>
  some (v49,true))
noncomputable def m35 (a0:Prefix)(a1:Prefix):Option Bool :=
 br (eqI a0.addr a1.addr) (
  br (eqI a0.len a1.len) (
   some true) (
   some false)) (
  some false)
noncomputable def m63_1b (a0:(List Int))(a1:(List Int))(s14:Int):Option (Ctl Int (Unit ⊕ Unit)) :=
 br (ltI s14 (↑a0.length:Int)) (
  bnd (idx a0 s14) fun x16 =>
  bnd (idx a1 s14) fun x21 =>
  br (eqI x16 x21) (
   some (.nxt (wadd .i64 s14 1))) (
   some (.out (.inr ())))) (
  some (.out (.inl ())))
noncomputable def m63 (a0:(List Int))(a1:(List Int)):Option Bool :=
 br (eqI (↑a0.length:Int) (↑a1.length:Int)) (
  bnd (loopP (m63_1b a0 a1) 0) fun o=>selS o (fun _ =>
   some true) (fun _ =>
   some false)) (
  some false)
noncomputable def m36 (a0:Attrs)(a1:Attrs):Option Bool :=
 br (eqI a0.origin a1.origin) (
  bnd (m63 a0.path a1.path) fun r4 =>
  br r4 (
   br (eqI a0.next a1.next) (
    br (eqI a0.med a1.med) (
     br (eqI a0.pref a1.pref) (
      bnd (m63 a0.comms a1.comms) fun r11 =>
      br r11 (
       some true) (
       some false)) (
      some false)) (
     some false)) (
    some false)) (
   some false)) (
  some false)
noncomputable def m11 (a0:Route)(a1:Route):Option Bool :=
 bnd (m35 a0.prefix_ a1.prefix_) fun r3 =>
 br r3 (
  bnd (m36 a0.attrs a1.attrs) fun r7 =>
  br r7 (
   some true) (
   some false)) (
  some false)
noncomputable def m20_1b (a0:(List Route))(a1:(List Route))(s17:Int):Option (Ctl Int (Unit ⊕ Unit)) :=
 br (ltI s17 (↑a0.length:Int)) (
  bnd (idx a0 s17) fun x19 =>
  bnd (idx a1 s17) fun x24 =>
  bnd (m11 x19 x24) fun r31 =>
  br r31 (
   some (.nxt (wadd .i64 s17 1))) (
   some (.out (.inr ())))) (
  some (.out (.inl ())))
noncomputable def m20 (a0:(List Route))(a1:(List Route)):Option Bool :=
 br (eqI (↑a0.length:Int) (↑a1.length:Int)) (
  bnd (loopP (m20_1b a0 a1) 0) fun o=>selS o (fun _ =>
   some true) (fun _ =>
   some false)) (
  some false)
noncomputable def m136 (a0:Range)(a1:Range):Option Bool :=
 bnd (m35 a0.prefix_ a1.prefix_) fun r3 =>
 br r3 (
  br (eqI a0.lo a1.lo) (
   br (eqI a0.hi a1.hi) (
    some true) (
    some false)) (
   some false)) (
  some false)
noncomputable def m106_1b (a0:(List Range))(a1:(List Range))(s17:Int):Option (Ctl Int (Unit ⊕ Unit)) :=
 br (ltI s17 (↑a0.length:Int)) (
  bnd (idx a0 s17) fun x19 =>
  bnd (idx a1 s17) fun x24 =>
  bnd (m136 x19 x24) fun r31 =>
  br r31 (
   some (.nxt (wadd .i64 s17 1))) (
   some (.out (.inr ())))) (
  some (.out (.inl ())))
noncomputable def m106 (a0:(List Range))(a1:(List Range)):Option Bool :=
 br (eqI (↑a0.length:Int) (↑a1.length:Int)) (
  bnd (loopP (m106_1b a0 a1) 0) fun o=>selS o (fun _ =>
   some true) (fun _ =>
   some false)) (
  some false)
noncomputable def m137 (a0:ReCell)(a1:ReCell):Option Bool :=
 br (eqI a0.kind a1.kind) (
  br (eqI a0.n a1.n) (
   some true) (
   some false)) (
  some false)
noncomputable def m107_1b (a0:(List ReCell))(a1:(List ReCell))(s17:Int):Option (Ctl Int (Unit ⊕ Unit)) :=
 br (ltI s17 (↑a0.length:Int)) (
  bnd (idx a0 s17) fun x19 =>
  bnd (idx a1 s17) fun x24 =>
  bnd (m137 x19 x24) fun r31 =>
  br r31 (
   some (.nxt (wadd .i64 s17 1))) (
   some (.out (.inr ())))) (
  some (.out (.inl ())))
noncomputable def m107 (a0:(List ReCell))(a1:(List ReCell)):Option Bool :=
 br (eqI (↑a0.length:Int) (↑a1.length:Int)) (
  bnd (loopP (m107_1b a0 a1) 0) fun o=>selS o (fun _ =>
   some true) (fun _ =>
   some false)) (
  some false)
noncomputable def m138 (a0:Acn)(a1:Acn):Option Bool :=
 br (eqI a0.kind a1.kind) (
  br (eqI a0.n a1.n) (
   some true) (
   some false)) (
  some false)
noncomputable def m108_1b (a0:(List Acn))(a1:(List Acn))(s17:Int):Option (Ctl Int (Unit ⊕ Unit)) :=
 br (ltI s17 (↑a0.length:Int)) (
  bnd (idx a0 s17) fun x19 =>
  bnd (idx a1 s17) fun x24 =>
  bnd (m138 x19 x24) fun r31 =>
  br r31 (
   some (.nxt (wadd .i64 s17 1))) (
   some (.out (.inr ())))) (
  some (.out (.inl ())))
noncomputable def m108 (a0:(List Acn))(a1:(List Acn)):Option Bool :=
 br (eqI (↑a0.length:Int) (↑a1.length:Int)) (
  bnd (loopP (m108_1b a0 a1) 0) fun o=>selS o (fun _ =>
   some true) (fun _ =>
   some false)) (
  some false)
noncomputable def m64 (a0:Term)(a1:Term):Option Bool :=
 bnd (m106 a0.ranges a1.ranges) fun r3 =>
 br r3 (
  bnd (m107 a0.path a1.path) fun r7 =>
  br r7 (
   br (eqI a0.comm a1.comm) (
    bnd (m108 a0.acts a1.acts) fun r12 =>
    br r12 (
     br (eqI a0.verdict a1.verdict) (
      some true) (
      some false)) (
     some false)) (
    some false)) (
   some false)) (
  some false)
noncomputable def m37_1b (a0:(List Term))(a1:(List Term))(s17:Int):Option (Ctl Int (Unit ⊕ Unit)) :=
 br (ltI s17 (↑a0.length:Int)) (
  bnd (idx a0 s17) fun x19 =>
  bnd (idx a1 s17) fun x24 =>
  bnd (m64 x19 x24) fun r31 =>
  br r31 (
   some (.nxt (wadd .i64 s17 1))) (
   some (.out (.inr ())))) (
  some (.out (.inl ())))
noncomputable def m37 (a0:(List Term))(a1:(List Term)):Option Bool :=
 br (eqI (↑a0.length:Int) (↑a1.length:Int)) (
  bnd (loopP (m37_1b a0 a1) 0) fun o=>selS o (fun _ =>
   some true) (fun _ =>
   some false)) (
  some false)
noncomputable def m12 (a0:Policy)(a1:Policy):Option Bool :=
 bnd (m37 a0.terms a1.terms) fun r3 =>
 br r3 (
  br (eqB a0.accept a1.accept) (
   some true) (
   some false)) (
  some false)
noncomputable def m65_1b (p:(Int×Int×List Range)):Option (Ctl (Int×Int×List Range) (Int×List Range)) :=
 sel3 p fun s7 s8 s9 =>
 br (ltI s8 (↑s9.length:Int)) (
  bnd (idx s9 s8) fun x11 =>
  some (.nxt (wadd .i64 (wadd .i64 (wadd .i64 (wadd .i64 s7 1) 1) 1) 1,wadd .i64 s8 1,(((s9.set s8.toNat (⟨(⟨s7,x11.prefix_.len⟩:Prefix),x11.lo,x11.hi⟩:Range)).set s8.toNat (⟨(⟨s7,wadd .i64 s7 1⟩:Prefix),x11.lo,x11.hi⟩:Range)).set s8.toNat (⟨(⟨s7,wadd .i64 s7 1⟩:Prefix),wadd .i64 (wadd .i64 s7 1) 1,x11.hi⟩:Range)).set s8.toNat (⟨(⟨s7,wadd .i64 s7 1⟩:Prefix),wadd .i64 (wadd .i64 s7 1) 1,wadd .i64 (wadd .i64 (wadd .i64 s7 1) 1) 1⟩:Range)))) (
  some (.out (s7,s9)))
noncomputable def m65 (a0:(List Range))(a1:Int):Option (Int×List Range) :=
 bnd (loopP (m65_1b) (a1,0,a0)) fun p=>sel2 p fun v18 v19 =>
 some (v18,v19)
noncomputable def m66_1b (p:(Int×Int×List ReCell)):Option (Ctl (Int×Int×List ReCell) (Int×List ReCell)) :=
 sel3 p fun s7 s8 s9 =>
 br (ltI s8 (↑s9.length:Int)) (
  bnd (idx s9 s8) fun x11 =>
  some (.nxt (wadd .i64 (wadd .i64 s7 1) 1,wadd .i64 s8 1,(s9.set s8.toNat (⟨s7,x11.n⟩:ReCell)).set s8.toNat (⟨s7,wadd .i64 s7 1⟩:ReCell)))) (
  some (.out (s7,s9)))
noncomputable def m66 (a0:(List ReCell))(a1:Int):Option (Int×List ReCell) :=
 bnd (loopP (m66_1b) (a1,0,a0)) fun p=>sel2 p fun v18 v19 =>
 some (v18,v19)
noncomputable def m67_1b (p:(Int×Int×List Acn)):Option (Ctl (Int×Int×List Acn) (Int×List Acn)) :=
 sel3 p fun s7 s8 s9 =>
 br (ltI s8 (↑s9.length:Int)) (
  bnd (idx s9 s8) fun x11 =>
  some (.nxt (wadd .i64 (wadd .i64 s7 1) 1,wadd .i64 s8 1,(s9.set s8.toNat (⟨s7,x11.n⟩:Acn)).set s8.toNat (⟨s7,wadd .i64 s7 1⟩:Acn)))) (
  some (.out (s7,s9)))
noncomputable def m67 (a0:(List Acn))(a1:Int):Option (Int×List Acn) :=
 bnd (loopP (m67_1b) (a1,0,a0)) fun p=>sel2 p fun v18 v19 =>
 some (v18,v19)
noncomputable def m38_1b (p:(Int×Int×List Term)):Option (Ctl (Int×Int×List Term) (Int×List Term)) :=
 sel3 p fun s22 s23 s24 =>
 br (ltI s23 (↑s24.length:Int)) (
  bnd (idx s24 s23) fun x26 =>
  bnd (m65 x26.ranges s22) fun p=>sel2 p fun r33 r34 =>
  ck (r34.length=x26.ranges.length) <|
  bnd (m66 x26.path r33) fun p=>sel2 p fun r38 r39 =>
  ck (r39.length=x26.path.length) <|
  bnd (m67 x26.acts (wadd .i64 r38 1)) fun p=>sel2 p fun r43 r44 =>
  ck (r44.length=x26.acts.length) <|
  some (.nxt (wadd .i64 r43 1,wadd .i64 s23 1,((((s24.set s23.toNat (⟨r34,x26.path,x26.comm,x26.acts,x26.verdict⟩:Term)).set s23.toNat (⟨r34,r39,x26.comm,x26.acts,x26.verdict⟩:Term)).set s23.toNat (⟨r34,r39,r38,x26.acts,x26.verdict⟩:Term)).set s23.toNat (⟨r34,r39,r38,r44,x26.verdict⟩:Term)).set s23.toNat (⟨r34,r39,r38,r44,r43⟩:Term)))) (
  some (.out (s22,s24)))
noncomputable def m38 (a0:(List Term))(a1:Int):Option (Int×List Term) :=
 bnd (loopP (m38_1b) (a1,0,a0)) fun p=>sel2 p fun v48 v49 =>
 some (v48,v49)
noncomputable def m13 (a0:Policy)(a1:Int):Option (Int×List Term) :=
 bnd (m38 a0.terms a1) fun p=>sel2 p fun r3 r4 =>
 ck (r4.length=a0.terms.length) <|
 some (r3,r4)
noncomputable def m43_1b (p:(Int×Int×List Int)):Option (Ctl (Int×Int×List Int) (Int×List Int)) :=
 sel3 p fun s7 s8 s9 =>
 br (ltI s8 (↑s9.length:Int)) (
  bnd (idx s9 s8) fun x11 =>
  some (.nxt (wadd .i64 s7 1,wadd .i64 s8 1,s9.set s8.toNat s7))) (
  some (.out (s7,s9)))
noncomputable def m43 (a0:(List Int))(a1:Int):Option (Int×List Int) :=
 bnd (loopP (m43_1b) (a1,0,a0)) fun p=>sel2 p fun v18 v19 =>
 some (v18,v19)
noncomputable def m21_1b (p:(Int×Int×List Route)):Option (Ctl (Int×Int×List Route) (Int×List Route)) :=
 sel3 p fun s17 s18 s19 =>
 br (ltI s18 (↑s19.length:Int)) (
  bnd (idx s19 s18) fun x21 =>
  bnd (m43 x21.attrs.path (wadd .i64 (wadd .i64 (wadd .i64 s17 1) 1) 1)) fun p=>sel2 p fun r28 r29 =>
  ck (r29.length=x21.attrs.path.length) <|
  bnd (m43 x21.attrs.comms (wadd .i64 (wadd .i64 (wadd .i64 r28 1) 1) 1)) fun p=>sel2 p fun r33 r34 =>
  ck (r34.length=x21.attrs.comms.length) <|
  some (.nxt (r33,wadd .i64 s18 1,(((((((s19.set s18.toNat (⟨(⟨s17,x21.prefix_.len⟩:Prefix),x21.attrs⟩:Route)).set s18.toNat (⟨(⟨s17,wadd .i64 s17 1⟩:Prefix),x21.attrs⟩:Route)).set s18.toNat (⟨(⟨s17,wadd .i64 s17 1⟩:Prefix),(⟨wadd .i64 (wadd .i64 s17 1) 1,x21.attrs.path,x21.attrs.next,x21.attrs.med,x21.attrs.pref,x21.attrs.comms⟩:Attrs)⟩:Route)).set s18.toNat (⟨(⟨s17,wadd .i64 s17 1⟩:Prefix),(⟨wadd .i64 (wadd .i64 s17 1) 1,r29,x21.attrs.next,x21.attrs.med,x21.attrs.pref,x21.attrs.comms⟩:Attrs)⟩:Route)).set s18.toNat (⟨(⟨s17,wadd .i64 s17 1⟩:Prefix),(⟨wadd .i64 (wadd .i64 s17 1) 1,r29,r28,x21.attrs.med,x21.attrs.pref,x21.attrs.comms⟩:Attrs)⟩:Route)).set s18.toNat (⟨(⟨s17,wadd .i64 s17 1⟩:Prefix),(⟨wadd .i64 (wadd .i64 s17 1) 1,r29,r28,wadd .i64 r28 1,x21.attrs.pref,x21.attrs.comms⟩:Attrs)⟩:Route)).set s18.toNat (⟨(⟨s17,wadd .i64 s17 1⟩:Prefix),(⟨wadd .i64 (wadd .i64 s17 1) 1,r29,r28,wadd .i64 r28 1,wadd .i64 (wadd .i64 r28 1) 1,x21.attrs.comms⟩:Attrs)⟩:Route)).set s18.toNat (⟨(⟨s17,wadd .i64 s17 1⟩:Prefix),(⟨wadd .i64 (wadd .i64 s17 1) 1,r29,r28,wadd .i64 r28 1,wadd .i64 (wadd .i64 r28 1) 1,r34⟩:Attrs)⟩:Route)))) (
  some (.out (s17,s19)))
noncomputable def m21 (a0:(List Route))(a1:Int):Option (Int×List Route) :=
 bnd (loopP (m21_1b) (a1,0,a0)) fun p=>sel2 p fun v38 v39 =>
 some (v38,v39)
noncomputable def m44_1b (a0:(List Int))(p:(Int×Int)):Option (Ctl (Int×Int) (Int ⊕ Unit)) :=
 sel2 p fun s8 s9 =>
 br (ltI s9 (↑a0.length:Int)) (
  bnd (idx a0 s9) fun x11 =>
  br (eqI x11 s8) (
   some (.nxt (wadd .i64 s8 1,wadd .i64 s9 1))) (
   some (.out (.inr ())))) (
  some (.out (.inl s8)))
noncomputable def m44 (a0:(List Int))(a1:Int):Option Int :=
 bnd (loopP (m44_1b a0) (a1,0)) fun o=>selS o (fun v19 =>
  some v19) (fun _ =>
  some (-1))
noncomputable def m22_1b (a0:(List Route))(p:(Int×Int)):Option (Ctl (Int×Int) (Int ⊕ Unit)) :=
 sel2 p fun s21 s22 =>
 br (ltI s22 (↑a0.length:Int)) (
  bnd (idx a0 s22) fun x24 =>
  br (eqI x24.prefix_.addr s21) (
   br (eqI x24.prefix_.len (wadd .i64 s21 1)) (
    br (eqI x24.attrs.origin (wadd .i64 (wadd .i64 s21 1) 1)) (
     bnd (m44 x24.attrs.path (wadd .i64 (wadd .i64 (wadd .i64 s21 1) 1) 1)) fun r34 =>
     br (ltI r34 0) (
      some (.out (.inr ()))) (
      br (eqI x24.attrs.next r34) (
       br (eqI x24.attrs.med (wadd .i64 r34 1)) (
        br (eqI x24.attrs.pref (wadd .i64 (wadd .i64 r34 1) 1)) (
         bnd (m44 x24.attrs.comms (wadd .i64 (wadd .i64 (wadd .i64 r34 1) 1) 1)) fun r41 =>
         br (ltI r41 0) (
          some (.out (.inr ()))) (
          some (.nxt (r41,wadd .i64 s22 1)))) (
         some (.out (.inr ())))) (
        some (.out (.inr ())))) (
       some (.out (.inr ()))))) (
     some (.out (.inr ())))) (
    some (.out (.inr ())))) (
   some (.out (.inr ())))) (
  some (.out (.inl s21)))
noncomputable def m22 (a0:(List Route))(a1:Int):Option Int :=
 bnd (loopP (m22_1b a0) (a1,0)) fun o=>selS o (fun v45 =>
  some v45) (fun _ =>
  some (-1))
noncomputable def m4_1 (r18:Bool)(r26:Bool)(r17:(List Route))(r25:(List Route)):Option Bool :=
 bnd (m20 r25 r17) fun r29 =>
 br r29 (
  some (!eqB r26 r18)) (
  some true)
noncomputable def m4_2 (r18:Bool)(r26:Bool)(r54:Int)(r17:(List Route))(r25:(List Route)):Option Bool :=
 br (ltI r54 0) (
  some true) (
  bnd (m20 r25 r17) fun r60 =>
  br r60 (
   some (!eqB r26 r18)) (
   some true))
noncomputable def m4_3 (r18:Bool)(r26:Bool)(r17:(List Route))(r25:(List Route)):Option Bool :=
 bnd (m20 r25 r17) fun r84 =>
 br r84 (
  some (!eqB r26 r18)) (
  some true)
noncomputable def m4 (a0:Policy)(a1:(List Route)):Option Bool :=
 bnd (m5 a0 1048576) fun r3 =>
 br (ltI r3 0) (
  some true) (
  bnd (m16 a1 r3) fun r7 =>
  br (ltI r7 0) (
   some true) (
   bnd (m8 a0) fun r11 =>
   bnd (m18 a1) fun r14 =>
   bnd (m17 r11 r14) fun p=>sel2 p fun r17 r18 =>
   bnd (m19 r11 r14) fun p=>sel2 p fun r25 r26 =>
   bnd (m4_1 r18 r26 r17 r25) fun v33 =>
   br v33 (
    some false) (
    bnd (m12 r11 r11) fun r39 =>
    br r39 (
     bnd (m20 r14 r14) fun r45 =>
     br r45 (
      bnd (m13 r11 1) fun p=>sel2 p fun r49 r50 =>
      ck (r50.length=r11.terms.length) <|
      bnd (m21 r14 r49) fun p=>sel2 p fun r54 r55 =>
      ck (r55.length=r14.length) <|
      bnd (m4_2 r18 r26 r54 r17 r25) fun v64 =>
      br v64 (
       some false) (
       bnd (m21 r25 1) fun p=>sel2 p fun r68 r69 =>
       ck (r69.length=r25.length) <|
       bnd (m22 r69 1) fun r73 =>
       br (ltI r73 0) (
        some false) (
        br (eqI r73 r68) (
         bnd (m4_3 r18 r26 r17 r25) fun v88 =>
         br v88 (
          some false) (
          some true)) (
         some false)))) (
      some false)) (
     some false))))
end Go.Pi.YthidbgihjhkjaaaGreat.FilterRoutes
