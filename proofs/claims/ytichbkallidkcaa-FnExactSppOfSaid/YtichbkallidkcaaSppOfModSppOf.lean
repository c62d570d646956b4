/- no condition -/
import Derived.Test.YtichbkallidkcaaPiD
set_option linter.all false
namespace Go.Pi.Ytichbkallidkcaa.SppOf
open Go Go.Pi
set_option maxRecDepth 100000
set_option linter.all false
def wfInt (x:Int):Prop:=-9223372036854775808≤x∧x≤9223372036854775807
structure Rel where
 a:Int
 b:Int
 kind:Int
 deriving Inhabited,DecidableEq
def wfRel (x:Rel):Prop:=wfInt x.a∧wfInt x.b∧wfInt x.kind
def wfLRel (x:(List Rel)):Prop:=x.length≤9223372036854775807∧∀y∈x,wfRel y
def wfBool (x:Bool):Prop:=True
def wfLInt (x:(List Int)):Prop:=x.length≤9223372036854775807∧∀y∈x,wfInt y
def wfLLInt (x:(List (List Int))):Prop:=x.length≤9223372036854775807∧∀y∈x,wfLInt y
def wfLLLInt (x:(List (List (List Int)))):Prop:=x.length≤9223372036854775807∧∀y∈x,wfLLInt y
structure Spp where
 ranked:(List (List (List Int)))
 deriving Inhabited,DecidableEq
def wfSpp (x:Spp):Prop:=wfLLLInt x.ranked
noncomputable def m11 (a0:(List Rel))(a1:Int):Option Int :=
 br (ltI (wsub .i64 a1 (↑a0.length:Int)) 0) (
  some (-1)) (
  some (wsub .i64 a1 (↑a0.length:Int)))
noncomputable def m40 (a0:Rel):Option Rel :=
 some a0
noncomputable def m13_1b (a0:(List Rel))(p:(Int×List Rel)):Option (Ctl (Int×List Rel) (List Rel)) :=
 sel2 p fun s17 s18 =>
 br (ltI s17 (↑a0.length:Int)) (
  bnd (idx a0 s17) fun x20 =>
  bnd (m40 x20) fun r27 =>
  bnd (idx s18 s17) fun x28 =>
  some (.nxt (wadd .i64 s17 1,s18.set s17.toNat r27))) (
  some (.out s18))
noncomputable def m13 (a0:(List Rel)):Option (List Rel) :=
 ck (0≤(↑a0.length:Int)∧(↑a0.length:Int)≤(↑a0.length:Int)∧(↑a0.length:Int)≤68719476736) <|
 bnd (loopP (m13_1b a0) (0,List.replicate a0.length (⟨0,0,0⟩:Rel))) fun v35 =>
 some v35
noncomputable def m39_1 (a0:Int)(a1:Int)(a2:Int):Option Bool :=
 br (leI a1 a0) (
  some (leI a0 a2)) (
  some false)
noncomputable def m39 (a0:Int)(a1:Int)(a2:Int):Option Bool :=
 bnd (m39_1 a0 a1 a2) fun v4 =>
 some v4
noncomputable def m12_1 (a0:Int)(a1:(List Rel)):Option Bool :=
 bnd (m39 a0 1 5) fun r3 =>
 br r3 (
  some (ltI 15 (↑a1.length:Int))) (
  some true)
noncomputable def m12_7 (a0:Int)(x56:Rel):Option Bool :=
 br (ltI x56.a 0) (
  some true) (
  br (leI x56.b x56.a) (
   some true) (
   br (ltI a0 x56.b) (
    some true) (
    bnd (m39 x56.kind 1 3) fun r66 =>
    some (!r66))))
noncomputable def m12_10 (x56:Rel)(x87:Rel):Option Bool :=
 br (eqI x87.a x56.a) (
  some (eqI x87.b x56.b)) (
  some false)
noncomputable def m12_8b (p72:List Rel)(p73:Int)(x56:Rel)(s85:Int):Option (Ctl Int (Unit ⊕ Unit)) :=
 br (ltI s85 p73) (
  bnd (idx p72 s85) fun x87 =>
  bnd (m12_10 x56 x87) fun v95 =>
  br v95 (
   some (.out (.inr ()))) (
   some (.nxt (wadd .i64 s85 1)))) (
  some (.out (.inl ())))
noncomputable def m12_2b (a0:Int)(a1:(List Rel))(p9:Int)(s54:Int):Option (Ctl Int (Unit ⊕ Unit)) :=
 br (ltI s54 p9) (
  bnd (idx a1 s54) fun x56 =>
  bnd (m12_7 a0 x56) fun v69 =>
  br v69 (
   some (.out (.inr ()))) (
   ck (0≤s54∧s54≤(↑a1.length:Int)) <|
   bnd (loopP (m12_8b (a1.take s54.toNat) (↑((a1.take s54.toNat).length):Int) x56) 0) fun o=>selS o (fun _ =>
    some (.nxt (wadd .i64 s54 1))) (fun _ =>
    some (.out (.inr ()))))) (
  some (.out (.inl ())))
noncomputable def m12 (a0:Int)(a1:(List Rel)):Option Bool :=
 bnd (m12_1 a0 a1) fun v7 =>
 br v7 (
  some false) (
  bnd (loopP (m12_2b a0 a1 (↑a1.length:Int)) 0) fun o=>selS o (fun _ =>
   some true) (fun _ =>
   some false))
noncomputable def m45_4 (a1:Int)(a2:Int)(x20:Rel):Option Bool :=
 br (eqI x20.a a1) (
  some (eqI x20.b a2)) (
  some false)
noncomputable def m45_5 (a1:Int)(a2:Int)(x20:Rel):Option Bool :=
 br (eqI x20.a a2) (
  some (eqI x20.b a1)) (
  some false)
noncomputable def m45_1b (a1:Int)(a2:Int)(a0:(List Rel))(p1:Int)(s18:Int):Option (Ctl Int (Unit ⊕ Int)) :=
 br (ltI s18 p1) (
  bnd (idx a0 s18) fun x20 =>
  bnd (m45_4 a1 a2 x20) fun v28 =>
  br v28 (
   some (.out (.inr x20.kind))) (
   bnd (m45_5 a1 a2 x20) fun v33 =>
   br v33 (
    some (.out (.inr (wsub .i64 4 x20.kind)))) (
    some (.nxt (wadd .i64 s18 1))))) (
  some (.out (.inl ())))
noncomputable def m45 (a0:(List Rel))(a1:Int)(a2:Int):Option Int :=
 bnd (loopP (m45_1b a1 a2 a0 (↑a0.length:Int)) 0) fun o=>selS o (fun _ =>
  some 0) (fun v37 =>
  some v37)
noncomputable def m54_4 (s20:Bool)(r35:Int):Option (Bool×Bool) :=
 br s20 (
  some (true,!(eqI r35 1))) (
  some (false,false))
noncomputable def m54_5 (v39:Bool)(r35:Int):Option Bool :=
 br v39 (
  some true) (
  some (!(eqI r35 3)))
noncomputable def m54_1b (a0:(List Rel))(a1:(List Int))(p:(Bool×Int)):Option (Ctl (Bool×Int) (Unit ⊕ Unit)) :=
 sel2 p fun s20 s21 =>
 br (ltI s21 (↑a1.length:Int)) (
  bnd (idx a1 (wsub .i64 s21 1)) fun x23 =>
  bnd (idx a1 s21) fun x28 =>
  bnd (m45 a0 x23 x28) fun r35 =>
  bnd (m54_4 s20 r35) fun p=>sel2 p fun v39 v40 =>
  br v40 (
   some (.out (.inr ()))) (
   bnd (m54_5 v39 r35) fun v45 =>
   some (.nxt (v45,wadd .i64 s21 1)))) (
  some (.out (.inl ())))
noncomputable def m54 (a0:(List Rel))(a1:(List Int)):Option Bool :=
 bnd (loopP (m54_1b a0 a1) (false,1)) fun o=>selS o (fun _ =>
  some true) (fun _ =>
  some false)
noncomputable def m47_1b (a1:Int)(a0:(List Int))(p1:Int)(s9:Int):Option (Ctl Int (Unit ⊕ Unit)) :=
 br (ltI s9 p1) (
  bnd (idx a0 s9) fun x11 =>
  br (eqI x11 a1) (
   some (.out (.inr ()))) (
   some (.nxt (wadd .i64 s9 1)))) (
  some (.out (.inl ())))
noncomputable def m47 (a0:(List Int))(a1:Int):Option Bool :=
 bnd (loopP (m47_1b a1 a0 (↑a0.length:Int)) 0) fun o=>selS o (fun _ =>
  some false) (fun _ =>
  some true)
noncomputable def m60_1 (rc:Int→(List Rel)→(List Int)→(List (List Int))→Option (List (List Int)))(a1:(List Rel))(a2:(List Int)):Option Bool :=
 br (ltI 1 (↑a2.length:Int)) (
  bnd (m54 a1 a2) fun r10 =>
  some r10) (
  some false)
noncomputable def m60_2 (rc:Int→(List Rel)→(List Int)→(List (List Int))→Option (List (List Int)))(v13:Bool)(a2:(List Int))(a3:(List (List Int))):Option (List (List Int)) :=
 br v13 (
  ck (0+a2.length≤68719476736) <|
  ck (a3.length+1≤68719476736) <|
  some (a3++[a2])) (
  some a3)
noncomputable def m60_6 (rc:Int→(List Rel)→(List Int)→(List (List Int))→Option (List (List Int)))(a1:(List Rel))(x1:Int)(s40:Int)(a2:(List Int)):Option Bool :=
 bnd (m45 a1 x1 s40) fun r45 =>
 br (eqI r45 0) (
  some false) (
  bnd (m47 a2 s40) fun r49 =>
  some (!r49))
noncomputable def m60_7 (rc:Int→(List Rel)→(List Int)→(List (List Int))→Option (List (List Int)))(a0:Int)(a1:(List Rel))(s40:Int)(v52:Bool)(a2:(List Int))(s41:List (List Int)):Option (List (List Int)) :=
 br v52 (
  ck (0+a2.length≤68719476736) <|
  ck (a2.length+1≤68719476736) <|
  bnd (rc a0 a1 (a2++[s40]) s41) fun r58 =>
  some r58) (
  some s41)
noncomputable def m60_3b (rc:Int→(List Rel)→(List Int)→(List (List Int))→Option (List (List Int)))(a0:Int)(a1:(List Rel))(x1:Int)(a2:(List Int))(p:(Int×List (List Int))):Option (Ctl (Int×List (List Int)) (List (List Int))) :=
 sel2 p fun s40 s41 =>
 br (leI s40 a0) (
  bnd (m60_6 rc a1 x1 s40 a2) fun v52 =>
  bnd (m60_7 rc a0 a1 s40 v52 a2 s41) fun v61 =>
  some (.nxt (wadd .i64 s40 1,v61))) (
  some (.out s41))
noncomputable def m60r (rc:Int→(List Rel)→(List Int)→(List (List Int))→Option (List (List Int)))(a0:Int)(a1:(List Rel))(a2:(List Int))(a3:(List (List Int))):Option (List (List Int)) :=
 bnd (idx a2 (wsub .i64 (↑a2.length:Int) 1)) fun x1 =>
 br (eqI x1 0) (
  bnd (m60_1 rc a1 a2) fun v13 =>
  bnd (m60_2 rc v13 a2 a3) fun v19 =>
  some v19) (
  bnd (loopP (m60_3b rc a0 a1 x1 a2) (0,a3)) fun v64 =>
  some v64)
noncomputable def m60k:Nat→Int→(List Rel)→(List Int)→(List (List Int))→Option (List (List Int))
 | 0=>fun _ _ _ _=>none
 | k+1=>m60r (m60k k)
noncomputable def m60 (a0:Int)(a1:(List Rel))(a2:(List Int))(a3:(List (List Int))):Option (List (List Int)):=limO (fun k=>m60k k a0 a1 a2 a3)
noncomputable def m61_1b (a1:(List Int))(a2:(List Int))(p29:Int)(s42:Int):Option (Ctl Int (Unit ⊕ Bool)) :=
 br (ltI s42 p29) (
  bnd (idx a1 s42) fun x44 =>
  bnd (idx a2 s42) fun x49 =>
  br (eqI x44 x49) (
   some (.nxt (wadd .i64 s42 1))) (
   some (.out (.inr (ltI x44 x49))))) (
  some (.out (.inl ())))
noncomputable def m61 (a0:(List Rel))(a1:(List Int))(a2:(List Int)):Option Bool :=
 bnd (idx a1 0) fun x1 =>
 bnd (idx a1 1) fun x6 =>
 bnd (m45 a0 x1 x6) fun r13 =>
 bnd (idx a2 0) fun x14 =>
 bnd (idx a2 1) fun x19 =>
 bnd (m45 a0 x14 x19) fun r26 =>
 br (eqI r13 r26) (
  br (eqI (↑a1.length:Int) (↑a2.length:Int)) (
   bnd (loopP (m61_1b a1 a2 (↑a1.length:Int)) 0) fun o=>selS o (fun _ =>
    some false) (fun v57 =>
    some v57)) (
   some (ltI (↑a1.length:Int) (↑a2.length:Int)))) (
  some (ltI r13 r26))
noncomputable def m91_1b (a0:(List Int))(a1:(List Int))(p2:Int)(s15:Int):Option (Ctl Int (Unit ⊕ Unit)) :=
 br (ltI s15 p2) (
  bnd (idx a0 s15) fun x17 =>
  bnd (idx a1 s15) fun x22 =>
  br (eqI x17 x22) (
   some (.nxt (wadd .i64 s15 1))) (
   some (.out (.inr ())))) (
  some (.out (.inl ())))
noncomputable def m91 (a0:(List Int))(a1:(List Int)):Option Bool :=
 br (eqI (↑a0.length:Int) (↑a1.length:Int)) (
  bnd (loopP (m91_1b a0 a1 (↑a0.length:Int)) 0) fun o=>selS o (fun _ =>
   some true) (fun _ =>
   some false)) (
  some false)
noncomputable def m75_1b (a2:(List Int))(x1:(List (List Int)))(p6:Int)(s17:Int):Option (Ctl Int (Unit ⊕ Int)) :=
 br (ltI s17 p6) (
  bnd (idx x1 s17) fun x19 =>
  bnd (m91 x19 a2) fun r26 =>
  br r26 (
   some (.out (.inr s17))) (
   some (.nxt (wadd .i64 s17 1)))) (
  some (.out (.inl ())))
noncomputable def m75 (a0:Spp)(a1:Int)(a2:(List Int)):Option Int :=
 bnd (idx a0.ranked (wsub .i64 a1 1)) fun x1 =>
 bnd (loopP (m75_1b a2 x1 (↑x1.length:Int)) 0) fun o=>selS o (fun _ =>
  some (-1)) (fun v30 =>
  some v30)
noncomputable def m74_1 (a1:Int)(a2:(List Int)):Option Bool :=
 br (ltI (↑a2.length:Int) 2) (
  some true) (
  bnd (idx a2 0) fun x3 =>
  br (eqI x3 a1) (
   bnd (idx a2 (wsub .i64 (↑a2.length:Int) 1)) fun x9 =>
   some (!(eqI x9 0))) (
   some true))
noncomputable def m74_4 (a2:(List Int))(p18:Int)(s38:Int)(x40:Int):Option Bool :=
 br (ltI x40 0) (
  some true) (
  br (ltI p18 x40) (
   some true) (
   ck (0≤s38∧s38≤(↑a2.length:Int)) <|
   bnd (m47 (a2.take s38.toNat) x40) fun r50 =>
   br r50 (
    some true) (
    br (eqI x40 0) (
     some (ltI s38 (wsub .i64 (↑a2.length:Int) 1))) (
     some false))))
noncomputable def m74_2b (a2:(List Int))(p18:Int)(p19:Int)(s38:Int):Option (Ctl Int (Unit ⊕ Unit)) :=
 br (ltI s38 p19) (
  bnd (idx a2 s38) fun x40 =>
  bnd (m74_4 a2 p18 s38 x40) fun v55 =>
  br v55 (
   some (.out (.inr ()))) (
   some (.nxt (wadd .i64 s38 1)))) (
  some (.out (.inl ())))
noncomputable def m74_5 (a2:(List Int))(a0:Spp):Option Bool :=
 br (eqI (↑a2.length:Int) 2) (
  some true) (
  bnd (idx a2 1) fun x60 =>
  ck (0≤1∧1≤(↑a2.length:Int)) <|
  bnd (m75 a0 x60 (a2.drop 1)) fun r68 =>
  some (leI 0 r68))
noncomputable def m74 (a0:Spp)(a1:Int)(a2:(List Int)):Option Bool :=
 bnd (m74_1 a1 a2) fun v16 =>
 br v16 (
  some false) (
  bnd (loopP (m74_2b a2 (↑a0.ranked.length:Int) (↑a2.length:Int)) 0) fun o=>selS o (fun _ =>
   bnd (m74_5 a2 a0) fun v71 =>
   some v71) (fun _ =>
   some false))
noncomputable def m62_7 (s51:Int)(s77:Int)(x79:(List Int))(a0:Spp):Option Bool :=
 bnd (m74 a0 (wadd .i64 s51 1) x79) fun r86 =>
 br r86 (
  bnd (m75 a0 (wadd .i64 s51 1) x79) fun r90 =>
  some (!(eqI r90 s77))) (
  some true)
noncomputable def m62_5b (s51:Int)(a0:Spp)(x53:(List (List Int)))(p59:Int)(s77:Int):Option (Ctl Int (Unit ⊕ Unit)) :=
 br (ltI s77 p59) (
  bnd (idx x53 s77) fun x79 =>
  bnd (m62_7 s51 s77 x79 a0) fun v93 =>
  br v93 (
   some (.out (.inr ()))) (
   some (.nxt (wadd .i64 s77 1)))) (
  some (.out (.inl ())))
noncomputable def m62_1b (a0:Spp)(p5:Int)(s51:Int):Option (Ctl Int (Unit ⊕ Unit)) :=
 br (ltI s51 p5) (
  bnd (idx a0.ranked s51) fun x53 =>
  br (ltI 6 (↑x53.length:Int)) (
   some (.out (.inr ()))) (
   bnd (loopP (m62_5b s51 a0 x53 (↑x53.length:Int)) 0) fun o=>selS o (fun _ =>
    some (.nxt (wadd .i64 s51 1))) (fun _ =>
    some (.out (.inr ()))))) (
  some (.out (.inl ())))
noncomputable def m62 (a0:Spp):Option Bool :=
 bnd (m39 (↑a0.ranked.length:Int) 1 5) fun r3 =>
 br r3 (
  bnd (loopP (m62_1b a0 (↑a0.ranked.length:Int)) 0) fun o=>selS o (fun _ =>
   some true) (fun _ =>
   some false)) (
  some false)
noncomputable def m29_15 (a1:(List Rel))(s145:List (List Int))(x148:(List Int))(s166:Int):Option Bool :=
 br (ltI s166 (↑s145.length:Int)) (
  bnd (idx s145 s166) fun x168 =>
  bnd (m61 a1 x168 x148) fun r175 =>
  some r175) (
  some false)
noncomputable def m29_13b (a1:(List Rel))(s145:List (List Int))(x148:(List Int))(s166:Int):Option (Ctl Int Int) :=
 bnd (m29_15 a1 s145 x148 s166) fun v178 =>
 br v178 (
  some (.nxt (wadd .i64 s166 1))) (
  some (.out s166))
noncomputable def m29_9b (a1:(List Rel))(r102:List (List Int))(p103:Int)(p:(List (List Int)×Int)):Option (Ctl (List (List Int)×Int) (List (List Int))) :=
 sel2 p fun s145 s146 =>
 br (ltI s146 p103) (
  bnd (idx r102 s146) fun x148 =>
  bnd (loopP (m29_13b a1 s145 x148) 0) fun v182 =>
  ck (0≤v182∧v182≤(↑s145.length:Int)) <|
  ck ((s145.take v182.toNat).length≤68719476736) <|
  ck ((s145.take v182.toNat).length+1≤68719476736) <|
  ck (0≤v182∧v182≤(↑s145.length:Int)) <|
  ck (((s145.take v182.toNat)++[x148]).length+(s145.drop v182.toNat).length≤68719476736) <|
  some (.nxt (((s145.take v182.toNat)++[x148])++(s145.drop v182.toNat),wadd .i64 s146 1))) (
  some (.out s145))
noncomputable def m29_1b (a0:Int)(a1:(List Rel))(p:(Int×List (List (List Int)))):Option (Ctl (Int×List (List (List Int))) (List (List (List Int)))) :=
 sel2 p fun s97 s98 =>
 br (leI s97 a0) (
  bnd (m60 a0 a1 [s97] []) fun r102 =>
  bnd (loopP (m29_9b a1 r102 (↑r102.length:Int)) ([],0)) fun v190 =>
  ck (s98.length+1≤68719476736) <|
  some (.nxt (wadd .i64 s97 1,s98++[v190]))) (
  some (.out s98))
noncomputable def m29 (a0:Int)(a1:(List Rel)):Option (Spp×Bool) :=
 bnd (m12 a0 a1) fun r3 =>
 br r3 (
  bnd (loopP (m29_1b a0 a1) (1,[])) fun v194 =>
  bnd (m62 (⟨v194⟩:Spp)) fun r197 =>
  br r197 (
   some ((⟨v194⟩:Spp),true)) (
   some ((⟨[]⟩:Spp),false))) (
  some ((⟨[]⟩:Spp),false))
noncomputable def m41_1 (a0:Int)(a1:Int)(a2:Int):Option Bool :=
 br (leI a1 a0) (
  some (leI a0 a2)) (
  some false)
noncomputable def m41 (a0:Int)(a1:Int)(a2:Int):Option Bool :=
 bnd (m41_1 a0 a1 a2) fun v4 =>
 some v4
noncomputable def m70_1b (a0:(List Rel))(p1:Int)(a1:(Rel→Option Bool))(s12:Int):Option (Ctl Int (Unit ⊕ Int)) :=
 br (ltI s12 p1) (
  bnd (idx a0 s12) fun x14 =>
  bnd (a1 x14) fun r19 =>
  br r19 (
   some (.out (.inr s12))) (
   some (.nxt (wadd .i64 s12 1)))) (
  some (.out (.inl ())))
noncomputable def m70 (a0:(List Rel))(a1:(Rel→Option Bool)):Option Int :=
 bnd (loopP (m70_1b a0 (↑a0.length:Int) a1) 0) fun o=>selS o (fun _ =>
  some (-1)) (fun v25 =>
  some v25)
noncomputable def m42 (a0:(List Rel))(a1:(Rel→Option Bool)):Option Bool :=
 bnd (m70 a0 a1) fun r3 =>
 some (leI 0 r3)
noncomputable def m43_1 (a1:Rel)(a0:Rel):Option Bool :=
 br (eqI a1.a a0.a) (
  some (eqI a1.b a0.b)) (
  some false)
noncomputable def m43 (a0:Rel)(a1:Rel):Option Bool :=
 bnd (m43_1 a1 a0) fun v4 =>
 some v4
noncomputable def m14_1 (a0:Int)(a1:(List Rel)):Option Bool :=
 bnd (m41 a0 1 5) fun r3 =>
 br r3 (
  some (ltI 15 (↑a1.length:Int))) (
  some true)
noncomputable def m14_4 (a0:Int)(a1:(List Rel))(s36:Int)(x38:Rel):Option Bool :=
 bnd (m41 x38.b 1 a0) fun r45 =>
 br r45 (
  bnd (m41 x38.a 0 (wsub .i64 x38.b 1)) fun r49 =>
  br r49 (
   bnd (m41 x38.kind 1 3) fun r53 =>
   br r53 (
    ck (0≤s36∧s36≤(↑a1.length:Int)) <|
    bnd (m42 (a1.take s36.toNat) (fun y0=>m43 y0 x38)) fun r58 =>
    some r58) (
    some true)) (
   some true)) (
  some true)
noncomputable def m14_2b (a0:Int)(a1:(List Rel))(p9:Int)(s36:Int):Option (Ctl Int (Unit ⊕ Unit)) :=
 br (ltI s36 p9) (
  bnd (idx a1 s36) fun x38 =>
  bnd (m14_4 a0 a1 s36 x38) fun v61 =>
  br v61 (
   some (.out (.inr ()))) (
   some (.nxt (wadd .i64 s36 1)))) (
  some (.out (.inl ())))
noncomputable def m14 (a0:Int)(a1:(List Rel)):Option Bool :=
 bnd (m14_1 a0 a1) fun v7 =>
 br v7 (
  some false) (
  bnd (loopP (m14_2b a0 a1 (↑a1.length:Int)) 0) fun o=>selS o (fun _ =>
   some true) (fun _ =>
   some false))
noncomputable def m46_4 (a1:Int)(a2:Int)(x20:Rel):Option Bool :=
 br (eqI x20.a a1) (
  some (eqI x20.b a2)) (
  some false)
noncomputable def m46_5 (a1:Int)(a2:Int)(x20:Rel):Option Bool :=
 br (eqI x20.a a2) (
  some (eqI x20.b a1)) (
  some false)
noncomputable def m46_1b (a1:Int)(a2:Int)(a0:(List Rel))(p1:Int)(s18:Int):Option (Ctl Int (Unit ⊕ Int)) :=
 br (ltI s18 p1) (
  bnd (idx a0 s18) fun x20 =>
  bnd (m46_4 a1 a2 x20) fun v28 =>
  br v28 (
   some (.out (.inr x20.kind))) (
   bnd (m46_5 a1 a2 x20) fun v33 =>
   br v33 (
    some (.out (.inr (wsub .i64 4 x20.kind)))) (
    some (.nxt (wadd .i64 s18 1))))) (
  some (.out (.inl ())))
noncomputable def m46 (a0:(List Rel))(a1:Int)(a2:Int):Option Int :=
 bnd (loopP (m46_1b a1 a2 a0 (↑a0.length:Int)) 0) fun o=>selS o (fun _ =>
  some 0) (fun v37 =>
  some v37)
noncomputable def m56_4 (s23:Bool)(r38:Int):Option (Bool×Bool) :=
 br (eqI r38 0) (
  some (s23,true)) (
  br s23 (
   some (true,!(eqI r38 1))) (
   some (false,false)))
noncomputable def m56_5 (v43:Bool)(r38:Int):Option Bool :=
 br v43 (
  some true) (
  some (!(eqI r38 3)))
noncomputable def m56_1b (a0:(List Rel))(a1:(List Int))(p:(Bool×Int)):Option (Ctl (Bool×Int) (Unit ⊕ Unit)) :=
 sel2 p fun s23 s24 =>
 br (ltI s24 (↑a1.length:Int)) (
  bnd (idx a1 (wsub .i64 s24 1)) fun x26 =>
  bnd (idx a1 s24) fun x31 =>
  bnd (m46 a0 x26 x31) fun r38 =>
  bnd (m56_4 s23 r38) fun p=>sel2 p fun v43 v44 =>
  br v44 (
   some (.out (.inr ()))) (
   bnd (m56_5 v43 r38) fun v49 =>
   some (.nxt (v49,wadd .i64 s24 1)))) (
  some (.out (.inl ())))
noncomputable def m56 (a0:(List Rel))(a1:(List Int)):Option Bool :=
 bnd (loopP (m56_1b a0 a1) (false,1)) fun o=>selS o (fun _ =>
  some true) (fun _ =>
  some false)
noncomputable def m72_1b (a0:(List Int))(a1:Int)(p1:Int)(s9:Int):Option (Ctl Int (Unit ⊕ Int)) :=
 br (ltI s9 p1) (
  bnd (idx a0 s9) fun x11 =>
  br (eqI a1 x11) (
   some (.out (.inr s9))) (
   some (.nxt (wadd .i64 s9 1)))) (
  some (.out (.inl ())))
noncomputable def m72 (a0:(List Int))(a1:Int):Option Int :=
 bnd (loopP (m72_1b a0 a1 (↑a0.length:Int)) 0) fun o=>selS o (fun _ =>
  some (-1)) (fun v19 =>
  some v19)
noncomputable def m55 (a0:(List Int))(a1:Int):Option Bool :=
 bnd (m72 a0 a1) fun r3 =>
 some (leI 0 r3)
noncomputable def m49 (a0:(List Int)):Option (List Int) :=
 ck (0+a0.length≤68719476736) <|
 some a0
noncomputable def m76_3 (rc:Int→(List Rel)→(List Int)→(List (List Int))→Option (List (List Int)))(a0:Int)(a1:(List Rel))(s29:Int)(p35:Bool)(a2:(List Int))(s30:List (List Int)):Option (List (List Int)) :=
 br p35 (
  bnd (m49 a2) fun r39 =>
  ck (r39.length+1≤68719476736) <|
  bnd (rc a0 a1 (r39++[s29]) s30) fun r43 =>
  some r43) (
  some s30)
noncomputable def m76_1b (rc:Int→(List Rel)→(List Int)→(List (List Int))→Option (List (List Int)))(a0:Int)(a1:(List Rel))(p12:Int)(a2:(List Int))(p:(Int×List (List Int))):Option (Ctl (Int×List (List Int)) (List (List Int))) :=
 sel2 p fun s29 s30 =>
 br (ltI s29 p12) (
  bnd (m55 a2 s29) fun r34 =>
  bnd (m76_3 rc a0 a1 s29 (!r34) a2 s30) fun v46 =>
  some (.nxt (wadd .i64 s29 1,v46))) (
  some (.out s30))
noncomputable def m76r (rc:Int→(List Rel)→(List Int)→(List (List Int))→Option (List (List Int)))(a0:Int)(a1:(List Rel))(a2:(List Int))(a3:(List (List Int))):Option (List (List Int)) :=
 bnd (m56 a1 a2) fun r3 =>
 br r3 (
  bnd (idx a2 (wsub .i64 (↑a2.length:Int) 1)) fun x5 =>
  br (eqI x5 0) (
   ck (a3.length+1≤68719476736) <|
   some (a3++[a2])) (
   bnd (loopP (m76_1b rc a0 a1 (wadd .i64 a0 1) a2) (0,a3)) fun v49 =>
   some v49)) (
  some a3)
noncomputable def m76k:Nat→Int→(List Rel)→(List Int)→(List (List Int))→Option (List (List Int))
 | 0=>fun _ _ _ _=>none
 | k+1=>m76r (m76k k)
noncomputable def m76 (a0:Int)(a1:(List Rel))(a2:(List Int))(a3:(List (List Int))):Option (List (List Int)):=limO (fun k=>m76k k a0 a1 a2 a3)
noncomputable def m98 (a0:Int):Option Bool :=
 some (!(eqI a0 a0))
noncomputable def m80 (a0:Int)(a1:Int):Option Int :=
 bnd (m98 a0) fun r3 =>
 bnd (m98 a1) fun r6 =>
 br r3 (
  br r6 (
   some 0) (
   some (-1))) (
  br r6 (
   some 1) (
   br (ltI a0 a1) (
    some (-1)) (
    br (ltI a1 a0) (
     some 1) (
     some 0))))
noncomputable def m81_1b (a0:(List Int))(a1:(List Int))(p1:Int)(s18:Int):Option (Ctl Int (Unit ⊕ Int)) :=
 br (ltI s18 p1) (
  bnd (idx a0 s18) fun x20 =>
  br (leI (↑a1.length:Int) s18) (
   some (.out (.inr 1))) (
   bnd (idx a1 s18) fun x26 =>
   bnd (m80 x20 x26) fun r33 =>
   br (eqI r33 0) (
    some (.nxt (wadd .i64 s18 1))) (
    some (.out (.inr r33))))) (
  some (.out (.inl ())))
noncomputable def m81 (a0:(List Int))(a1:(List Int)):Option Int :=
 bnd (loopP (m81_1b a0 a1 (↑a0.length:Int)) 0) fun o=>selS o (fun _ =>
  br (ltI (↑a0.length:Int) (↑a1.length:Int)) (
   some (-1)) (
   some 0)) (fun v38 =>
  some v38)
noncomputable def m79_1b (a0:(List Int))(p1:Int)(s9:Int):Option (Ctl Int (Unit ⊕ Int)) :=
 br (ltI s9 p1) (
  bnd (idx a0 s9) fun x11 =>
  br (eqI x11 0) (
   some (.nxt (wadd .i64 s9 1))) (
   some (.out (.inr x11)))) (
  some (.out (.inl ())))
noncomputable def m79 (a0:(List Int)):Option Int :=
 bnd (loopP (m79_1b a0 (↑a0.length:Int)) 0) fun o=>selS o (fun _ =>
  some 0) (fun v19 =>
  some v19)
noncomputable def m78 (a0:(List Int))(a1:(List Int))(a2:(List Rel))(a3:Int):Option Int :=
 bnd (idx a0 1) fun x1 =>
 bnd (m46 a2 a3 x1) fun r8 =>
 bnd (idx a1 1) fun x9 =>
 bnd (m46 a2 a3 x9) fun r16 =>
 bnd (m80 r8 r16) fun r19 =>
 bnd (m80 (↑a0.length:Int) (↑a1.length:Int)) fun r22 =>
 bnd (m81 a0 a1) fun r25 =>
 bnd (m79 [r19,r22,r25]) fun r28 =>
 some r28
noncomputable def m63_1b (a0:Int)(a1:(List Rel))(p:(List (List (List Int))×Int)):Option (Ctl (List (List (List Int))×Int) (List (List (List Int)))) :=
 sel2 p fun s10 s11 =>
 br (leI s11 a0) (
  bnd (m76 a0 a1 [s11] []) fun r15 =>
  bnd (srtP (fun y0 y1=>m78 y0 y1 a1 s11) r15) fun v16 =>
  ck (s10.length+1≤68719476736) <|
  some (.nxt (s10++[v16],wadd .i64 s11 1))) (
  some (.out s10))
noncomputable def m63 (a0:Int)(a1:(List Rel)):Option Spp :=
 bnd (loopP (m63_1b a0 a1) ([],1)) fun v24 =>
 some (⟨v24⟩:Spp)
noncomputable def m100_1b (a0:(List (List Int)))(p1:Int)(a1:((List Int)→Option Bool))(s12:Int):Option (Ctl Int (Unit ⊕ Int)) :=
 br (ltI s12 p1) (
  bnd (idx a0 s12) fun x14 =>
  bnd (a1 x14) fun r19 =>
  br r19 (
   some (.out (.inr s12))) (
   some (.nxt (wadd .i64 s12 1)))) (
  some (.out (.inl ())))
noncomputable def m100 (a0:(List (List Int)))(a1:((List Int)→Option Bool)):Option Int :=
 bnd (loopP (m100_1b a0 (↑a0.length:Int) a1) 0) fun o=>selS o (fun _ =>
  some (-1)) (fun v25 =>
  some v25)
noncomputable def m83 (a0:(List (List Int)))(a1:((List Int)→Option Bool)):Option Bool :=
 bnd (m100 a0 a1) fun r3 =>
 some (leI 0 r3)
noncomputable def m85_1b (a0:(List Int))(a1:(List Int))(p2:Int)(s15:Int):Option (Ctl Int (Unit ⊕ Unit)) :=
 br (ltI s15 p2) (
  bnd (idx a0 s15) fun x17 =>
  bnd (idx a1 s15) fun x22 =>
  br (eqI x17 x22) (
   some (.nxt (wadd .i64 s15 1))) (
   some (.out (.inr ())))) (
  some (.out (.inl ())))
noncomputable def m85 (a0:(List Int))(a1:(List Int)):Option Bool :=
 br (eqI (↑a0.length:Int) (↑a1.length:Int)) (
  bnd (loopP (m85_1b a0 a1 (↑a0.length:Int)) 0) fun o=>selS o (fun _ =>
   some true) (fun _ =>
   some false)) (
  some false)
noncomputable def m99 (a0:(List Int))(a1:(List Int)):Option Bool :=
 ck (0≤1∧1≤(↑a1.length:Int)) <|
 bnd (m85 a0 (a1.drop 1)) fun r4 =>
 some r4
noncomputable def m82_1 (a1:Int)(p1:Int)(a2:(List Int)):Option Bool :=
 br (ltI p1 1) (
  some true) (
  bnd (idx a2 0) fun x3 =>
  br (eqI x3 a1) (
   bnd (idx a2 p1) fun x9 =>
   some (!(eqI x9 0))) (
   some true))
noncomputable def m82_4 (p18:Int)(s43:Int)(x45:Int)(a2:(List Int))(a0:Spp):Option Bool :=
 br (ltI s43 p18) (
  bnd (m41 x45 1 (↑a0.ranked.length:Int)) fun r53 =>
  br r53 (
   ck (0≤s43∧s43≤(↑a2.length:Int)) <|
   bnd (m55 (a2.take s43.toNat) x45) fun r58 =>
   some r58) (
   some true)) (
  ck (0≤s43∧s43≤(↑a2.length:Int)) <|
  bnd (m55 (a2.take s43.toNat) x45) fun r62 =>
  some r62)
noncomputable def m82_2b (p18:Int)(a2:(List Int))(p19:Int)(a0:Spp)(s43:Int):Option (Ctl Int (Unit ⊕ Unit)) :=
 br (ltI s43 p19) (
  bnd (idx a2 s43) fun x45 =>
  bnd (m82_4 p18 s43 x45 a2 a0) fun v65 =>
  br v65 (
   some (.out (.inr ()))) (
   some (.nxt (wadd .i64 s43 1)))) (
  some (.out (.inl ())))
noncomputable def m82_5 (p69:Int)(a0:Spp)(a2:(List Int)):Option Bool :=
 br (eqI p69 1) (
  some true) (
  bnd (idx a2 1) fun x71 =>
  bnd (idx a0.ranked (wsub .i64 x71 1)) fun x76 =>
  bnd (m83 x76 (fun y0=>m99 y0 a2)) fun r83 =>
  some r83)
noncomputable def m82 (a0:Spp)(a1:Int)(a2:(List Int)):Option Bool :=
 bnd (m82_1 a1 (wsub .i64 (↑a2.length:Int) 1) a2) fun v16 =>
 br v16 (
  some false) (
  bnd (loopP (m82_2b (wsub .i64 (↑a2.length:Int) 1) a2 (↑a2.length:Int) a0) 0) fun o=>selS o (fun _ =>
   bnd (m82_5 (wsub .i64 (↑a2.length:Int) 1) a0 a2) fun v86 =>
   some v86) (fun _ =>
   some false))
noncomputable def m84 (a0:(List Int))(a1:(List Int)):Option Bool :=
 bnd (m85 a0 a1) fun r3 =>
 some r3
noncomputable def m64_7 (s55:Int)(x57:(List (List Int)))(s83:Int)(a0:Spp)(x85:(List Int)):Option Bool :=
 br (ltI 6 (↑x85.length:Int)) (
  some true) (
  bnd (m82 a0 (wadd .i64 s55 1) x85) fun r93 =>
  br r93 (
   ck (0≤s83∧s83≤(↑x57.length:Int)) <|
   bnd (m83 (x57.take s83.toNat) (fun y0=>m84 y0 x85)) fun r98 =>
   some r98) (
   some true))
noncomputable def m64_5b (s55:Int)(x57:(List (List Int)))(a0:Spp)(p63:Int)(s83:Int):Option (Ctl Int (Unit ⊕ Unit)) :=
 br (ltI s83 p63) (
  bnd (idx x57 s83) fun x85 =>
  bnd (m64_7 s55 x57 s83 a0 x85) fun v101 =>
  br v101 (
   some (.out (.inr ()))) (
   some (.nxt (wadd .i64 s83 1)))) (
  some (.out (.inl ())))
noncomputable def m64_1b (a0:Spp)(p5:Int)(s55:Int):Option (Ctl Int (Unit ⊕ Unit)) :=
 br (ltI s55 p5) (
  bnd (idx a0.ranked s55) fun x57 =>
  br (ltI 6 (↑x57.length:Int)) (
   some (.out (.inr ()))) (
   bnd (loopP (m64_5b s55 x57 a0 (↑x57.length:Int)) 0) fun o=>selS o (fun _ =>
    some (.nxt (wadd .i64 s55 1))) (fun _ =>
    some (.out (.inr ()))))) (
  some (.out (.inl ())))
noncomputable def m64 (a0:Spp):Option Bool :=
 bnd (m41 (↑a0.ranked.length:Int) 1 5) fun r3 =>
 br r3 (
  bnd (loopP (m64_1b a0 (↑a0.ranked.length:Int)) 0) fun o=>selS o (fun _ =>
   some true) (fun _ =>
   some false)) (
  some false)
noncomputable def m30 (a0:Int)(a1:(List Rel)):Option (Spp×Bool) :=
 bnd (m14 a0 a1) fun r3 =>
 br r3 (
  bnd (m63 a0 a1) fun r7 =>
  bnd (m64 r7) fun r10 =>
  br r10 (
   some (r7,true)) (
   some ((⟨[]⟩:Spp),false))) (
  some ((⟨[]⟩:Spp),false))
noncomputable def m25_1b (a0:(List Int))(a1:(List Int))(s14:Int):Option (Ctl Int (Unit ⊕ Unit)) :=
 br (ltI s14 (↑a0.length:Int)) (
  bnd (idx a0 s14) fun x16 =>
  bnd (idx a1 s14) fun x21 =>
  br (eqI x16 x21) (
   some (.nxt (wadd .i64 s14 1))) (
   some (.out (.inr ())))) (
  some (.out (.inl ())))
noncomputable def m25 (a0:(List Int))(a1:(List Int)):Option Bool :=
 br (eqI (↑a0.length:Int) (↑a1.length:Int)) (
  bnd (loopP (m25_1b a0 a1) 0) fun o=>selS o (fun _ =>
   some true) (fun _ =>
   some false)) (
  some false)
noncomputable def m86_1b (a0:(List (List Int)))(a1:(List (List Int)))(s17:Int):Option (Ctl Int (Unit ⊕ Unit)) :=
 br (ltI s17 (↑a0.length:Int)) (
  bnd (idx a0 s17) fun x19 =>
  bnd (idx a1 s17) fun x24 =>
  bnd (m25 x19 x24) fun r31 =>
  br r31 (
   some (.nxt (wadd .i64 s17 1))) (
   some (.out (.inr ())))) (
  some (.out (.inl ())))
noncomputable def m86 (a0:(List (List Int)))(a1:(List (List Int))):Option Bool :=
 br (eqI (↑a0.length:Int) (↑a1.length:Int)) (
  bnd (loopP (m86_1b a0 a1) 0) fun o=>selS o (fun _ =>
   some true) (fun _ =>
   some false)) (
  some false)
noncomputable def m65_1b (a0:(List (List (List Int))))(a1:(List (List (List Int))))(s17:Int):Option (Ctl Int (Unit ⊕ Unit)) :=
 br (ltI s17 (↑a0.length:Int)) (
  bnd (idx a0 s17) fun x19 =>
  bnd (idx a1 s17) fun x24 =>
  bnd (m86 x19 x24) fun r31 =>
  br r31 (
   some (.nxt (wadd .i64 s17 1))) (
   some (.out (.inr ())))) (
  some (.out (.inl ())))
noncomputable def m65 (a0:(List (List (List Int))))(a1:(List (List (List Int)))):Option Bool :=
 br (eqI (↑a0.length:Int) (↑a1.length:Int)) (
  bnd (loopP (m65_1b a0 a1) 0) fun o=>selS o (fun _ =>
   some true) (fun _ =>
   some false)) (
  some false)
noncomputable def m31 (a0:Spp)(a1:Spp):Option Bool :=
 bnd (m65 a0.ranked a1.ranked) fun r3 =>
 br r3 (
  some true) (
  some false)
noncomputable def m44 (a0:Rel)(a1:Rel):Option Bool :=
 br (eqI a0.a a1.a) (
  br (eqI a0.b a1.b) (
   br (eqI a0.kind a1.kind) (
    some true) (
    some false)) (
   some false)) (
  some false)
noncomputable def m15_1b (a0:(List Rel))(a1:(List Rel))(s17:Int):Option (Ctl Int (Unit ⊕ Unit)) :=
 br (ltI s17 (↑a0.length:Int)) (
  bnd (idx a0 s17) fun x19 =>
  bnd (idx a1 s17) fun x24 =>
  bnd (m44 x19 x24) fun r31 =>
  br r31 (
   some (.nxt (wadd .i64 s17 1))) (
   some (.out (.inr ())))) (
  some (.out (.inl ())))
noncomputable def m15 (a0:(List Rel))(a1:(List Rel)):Option Bool :=
 br (eqI (↑a0.length:Int) (↑a1.length:Int)) (
  bnd (loopP (m15_1b a0 a1) 0) fun o=>selS o (fun _ =>
   some true) (fun _ =>
   some false)) (
  some false)
noncomputable def m32_1b (p:(Int×Int×List Rel)):Option (Ctl (Int×Int×List Rel) (Int×List Rel)) :=
 sel3 p fun s7 s8 s9 =>
 br (ltI s8 (↑s9.length:Int)) (
  bnd (idx s9 s8) fun x11 =>
  some (.nxt (wadd .i64 (wadd .i64 (wadd .i64 s7 1) 1) 1,wadd .i64 s8 1,((s9.set s8.toNat (⟨s7,x11.b,x11.kind⟩:Rel)).set s8.toNat (⟨s7,wadd .i64 s7 1,x11.kind⟩:Rel)).set s8.toNat (⟨s7,wadd .i64 s7 1,wadd .i64 (wadd .i64 s7 1) 1⟩:Rel)))) (
  some (.out (s7,s9)))
noncomputable def m32 (a0:(List Rel))(a1:Int):Option (Int×List Rel) :=
 bnd (loopP (m32_1b) (a1,0,a0)) fun p=>sel2 p fun v18 v19 =>
 some (v18,v19)
noncomputable def m37_1b (p:(Int×Int×List Int)):Option (Ctl (Int×Int×List Int) (Int×List Int)) :=
 sel3 p fun s7 s8 s9 =>
 br (ltI s8 (↑s9.length:Int)) (
  bnd (idx s9 s8) fun x11 =>
  some (.nxt (wadd .i64 s7 1,wadd .i64 s8 1,s9.set s8.toNat s7))) (
  some (.out (s7,s9)))
noncomputable def m37 (a0:(List Int))(a1:Int):Option (Int×List Int) :=
 bnd (loopP (m37_1b) (a1,0,a0)) fun p=>sel2 p fun v18 v19 =>
 some (v18,v19)
noncomputable def m87_1b (p:(Int×Int×List (List Int))):Option (Ctl (Int×Int×List (List Int)) (Int×List (List Int))) :=
 sel3 p fun s12 s13 s14 =>
 br (ltI s13 (↑s14.length:Int)) (
  bnd (idx s14 s13) fun x16 =>
  bnd (m37 x16 s12) fun p=>sel2 p fun r23 r24 =>
  ck (r24.length=x16.length) <|
  some (.nxt (r23,wadd .i64 s13 1,s14.set s13.toNat r24))) (
  some (.out (s12,s14)))
noncomputable def m87 (a0:(List (List Int)))(a1:Int):Option (Int×List (List Int)) :=
 bnd (loopP (m87_1b) (a1,0,a0)) fun p=>sel2 p fun v28 v29 =>
 some (v28,v29)
noncomputable def m66_1b (p:(Int×Int×List (List (List Int)))):Option (Ctl (Int×Int×List (List (List Int))) (Int×List (List (List Int)))) :=
 sel3 p fun s12 s13 s14 =>
 br (ltI s13 (↑s14.length:Int)) (
  bnd (idx s14 s13) fun x16 =>
  bnd (m87 x16 s12) fun p=>sel2 p fun r23 r24 =>
  ck (r24.length=x16.length) <|
  some (.nxt (r23,wadd .i64 s13 1,s14.set s13.toNat r24))) (
  some (.out (s12,s14)))
noncomputable def m66 (a0:(List (List (List Int))))(a1:Int):Option (Int×List (List (List Int))) :=
 bnd (loopP (m66_1b) (a1,0,a0)) fun p=>sel2 p fun v28 v29 =>
 some (v28,v29)
noncomputable def m33 (a0:Spp)(a1:Int):Option (Int×List (List (List Int))) :=
 bnd (m66 a0.ranked a1) fun p=>sel2 p fun r3 r4 =>
 ck (r4.length=a0.ranked.length) <|
 some (r3,r4)
noncomputable def m38_1b (a0:(List Int))(p:(Int×Int)):Option (Ctl (Int×Int) (Int ⊕ Unit)) :=
 sel2 p fun s8 s9 =>
 br (ltI s9 (↑a0.length:Int)) (
  bnd (idx a0 s9) fun x11 =>
  br (eqI x11 s8) (
   some (.nxt (wadd .i64 s8 1,wadd .i64 s9 1))) (
   some (.out (.inr ())))) (
  some (.out (.inl s8)))
noncomputable def m38 (a0:(List Int))(a1:Int):Option Int :=
 bnd (loopP (m38_1b a0) (a1,0)) fun o=>selS o (fun v19 =>
  some v19) (fun _ =>
  some (-1))
noncomputable def m88_1b (a0:(List (List Int)))(p:(Int×Int)):Option (Ctl (Int×Int) (Int ⊕ Unit)) :=
 sel2 p fun s11 s12 =>
 br (ltI s12 (↑a0.length:Int)) (
  bnd (idx a0 s12) fun x14 =>
  bnd (m38 x14 s11) fun r21 =>
  br (ltI r21 0) (
   some (.out (.inr ()))) (
   some (.nxt (r21,wadd .i64 s12 1)))) (
  some (.out (.inl s11)))
noncomputable def m88 (a0:(List (List Int)))(a1:Int):Option Int :=
 bnd (loopP (m88_1b a0) (a1,0)) fun o=>selS o (fun v25 =>
  some v25) (fun _ =>
  some (-1))
noncomputable def m67_1b (a0:(List (List (List Int))))(p:(Int×Int)):Option (Ctl (Int×Int) (Int ⊕ Unit)) :=
 sel2 p fun s11 s12 =>
 br (ltI s12 (↑a0.length:Int)) (
  bnd (idx a0 s12) fun x14 =>
  bnd (m88 x14 s11) fun r21 =>
  br (ltI r21 0) (
   some (.out (.inr ()))) (
   some (.nxt (r21,wadd .i64 s12 1)))) (
  some (.out (.inl s11)))
noncomputable def m67 (a0:(List (List (List Int))))(a1:Int):Option Int :=
 bnd (loopP (m67_1b a0) (a1,0)) fun o=>selS o (fun v25 =>
  some v25) (fun _ =>
  some (-1))
noncomputable def m34 (a0:Spp)(a1:Int):Option Int :=
 bnd (m67 a0.ranked a1) fun r3 =>
 br (ltI r3 0) (
  some (-1)) (
  some r3)
noncomputable def m9_1 (r11:Bool)(r17:Bool)(r10:Spp)(r16:Spp):Option Bool :=
 bnd (m31 r16 r10) fun r20 =>
 br r20 (
  some (!eqB r17 r11)) (
  some true)
noncomputable def m9_2 (r11:Bool)(r17:Bool)(r34:Int)(r10:Spp)(r16:Spp):Option Bool :=
 br (ltI r34 0) (
  some true) (
  bnd (m31 r16 r10) fun r40 =>
  br r40 (
   some (!eqB r17 r11)) (
   some true))
noncomputable def m9_3 (r11:Bool)(r17:Bool)(r10:Spp)(r16:Spp):Option Bool :=
 bnd (m31 r16 r10) fun r62 =>
 br r62 (
  some (!eqB r17 r11)) (
  some true)
noncomputable def m9 (a0:Int)(a1:(List Rel)):Option Bool :=
 bnd (m11 a1 1048576) fun r3 =>
 br (ltI r3 0) (
  some true) (
  bnd (m13 a1) fun r7 =>
  bnd (m29 a0 r7) fun p=>sel2 p fun r10 r11 =>
  bnd (m30 a0 r7) fun p=>sel2 p fun r16 r17 =>
  bnd (m9_1 r11 r17 r10 r16) fun v24 =>
  br v24 (
   some false) (
   bnd (m15 r7 r7) fun r30 =>
   br r30 (
    bnd (m32 r7 1) fun p=>sel2 p fun r34 r35 =>
    ck (r35.length=r7.length) <|
    bnd (m9_2 r11 r17 r34 r10 r16) fun v44 =>
    br v44 (
     some false) (
     bnd (m33 r16 1) fun p=>sel2 p fun r48 r49 =>
     ck (r49.length=r16.ranked.length) <|
     bnd (m34 (⟨r49⟩:Spp) 1) fun r53 =>
     br (ltI r53 0) (
      some false) (
      br (eqI r53 r48) (
       bnd (m9_3 r11 r17 r10 r16) fun v66 =>
       br v66 (
        some false) (
        some true)) (
       some false)))) (
    some false)))
end Go.Pi.Ytichbkallidkcaa.SppOf
