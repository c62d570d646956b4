/- no condition -/
import Derived.Test.YthidbgihjhkjaaaPiD
set_option linter.all false
namespace Go.Pi.Ythidbgihjhkjaaa.ActOn
open Go Go.Pi
set_option maxRecDepth 100000
set_option linter.all false
def wfInt (x : Int) : Prop := -9223372036854775808 ≤ x ∧ x ≤ 9223372036854775807
structure Acn where
 kind : Int
 n : Int
 deriving Inhabited, DecidableEq
def wfAcn (x : Acn) : Prop := wfInt x.kind ∧ wfInt x.n
structure Prefix where
 addr : Int
 len : Int
 deriving Inhabited, DecidableEq
def wfPrefix (x : Prefix) : Prop := wfInt x.addr ∧ wfInt x.len
def wfLInt (x : (List Int)) : Prop := x.length ≤ 9223372036854775807 ∧ ∀ y ∈ x, wfInt y
structure Attrs where
 origin : Int
 path : (List Int)
 next : Int
 med : Int
 pref : Int
 comms : (List Int)
 deriving Inhabited, DecidableEq
def wfAttrs (x : Attrs) : Prop := wfInt x.origin ∧ wfLInt x.path ∧ wfInt x.next ∧ wfInt x.med ∧ wfInt x.pref ∧ wfLInt x.comms
structure Route where
 prefix_ : Prefix
 attrs : Attrs
 deriving Inhabited, DecidableEq
def wfRoute (x : Route) : Prop := wfPrefix x.prefix_ ∧ wfAttrs x.attrs
def wfBool (x : Bool) : Prop := True
noncomputable def m70 (a0 : (List Int)) (a1 : Int) : Option Int :=
 br (ltI (wsub .i64 a1 (↑a0.length : Int)) 0) (
  some (-1)) (
  some (wsub .i64 a1 (↑a0.length : Int)))
noncomputable def m32 (a0 : Attrs) (a1 : Int) : Option Int :=
 bnd (m70 a0.path a1) fun r3 =>
 br (ltI r3 0) (
  some (-1)) (
  bnd (m70 a0.comms r3) fun r7 =>
  br (ltI r7 0) (
   some (-1)) (
   some r7))
noncomputable def m8 (a0 : Route) (a1 : Int) : Option Int :=
 bnd (m32 a0.attrs a1) fun r3 =>
 br (ltI r3 0) (
  some (-1)) (
  some r3)
noncomputable def m19 (a0 : Acn) : Option Acn :=
 some a0
noncomputable def m35 (a0 : Prefix) : Option Prefix :=
 some a0
noncomputable def m74_1b (a0 : (List Int)) (p : (Int × List Int)) : Option (Ctl (Int × List Int) (List Int)) :=
 sel2 p fun s14 s15 =>
 br (ltI s14 (↑a0.length : Int)) (
  bnd (idx a0 s14) fun x17 =>
  bnd (idx s15 s14) fun x22 =>
  some (.nxt (wadd .i64 s14 1, s15.set s14.toNat x17))) (
  some (.out s15))
noncomputable def m74 (a0 : (List Int)) : Option (List Int) :=
 ck (0 ≤ (↑a0.length : Int) ∧ (↑a0.length : Int) ≤ (↑a0.length : Int) ∧ (↑a0.length : Int) ≤ 68719476736) <|
 bnd (loopP (m74_1b a0) (0, List.replicate a0.length 0)) fun v29 =>
 some v29
noncomputable def m36 (a0 : Attrs) : Option Attrs :=
 bnd (m74 a0.path) fun r3 =>
 bnd (m74 a0.comms) fun r6 =>
 some (⟨a0.origin, r3, a0.next, a0.med, a0.pref, r6⟩ : Attrs)
noncomputable def m10 (a0 : Route) : Option Route :=
 bnd (m35 a0.prefix_) fun r3 =>
 bnd (m36 a0.attrs) fun r6 =>
 some (⟨r3, r6⟩ : Route)
noncomputable def m71_1 (a0 : Int) (a1 : Int) (a2 : Int) : Option Bool :=
 br (leI a1 a0) (
  some (leI a0 a2)) (
  some false)
noncomputable def m71 (a0 : Int) (a1 : Int) (a2 : Int) : Option Bool :=
 bnd (m71_1 a0 a1 a2) fun v4 =>
 some v4
noncomputable def m48_3 (a0 : Acn) (p5 : Bool) : Option Bool :=
 br p5 (
  some p5) (
  some (eqI a0.kind 4))
noncomputable def m48_2 (a0 : Acn) (p3 : Bool) : Option Bool :=
 br p3 (
  some p3) (
  bnd (m48_3 a0 (eqI a0.kind 3)) fun v9 =>
  some v9)
noncomputable def m48_1 (a0 : Acn) (p1 : Bool) : Option Bool :=
 br p1 (
  some p1) (
  bnd (m48_2 a0 (eqI a0.kind 2)) fun v12 =>
  some v12)
noncomputable def m48_4 (a0 : Acn) : Option Bool :=
 br (eqI a0.kind 5) (
  bnd (m71 a0.n 1 65535) fun r23 =>
  some r23) (
  some false)
noncomputable def m48 (a0 : Acn) : Option Bool :=
 bnd (m48_1 a0 (eqI a0.kind 1)) fun v15 =>
 br v15 (
  bnd (m71 a0.n 0 1000000) fun r19 =>
  some r19) (
  bnd (m48_4 a0) fun v26 =>
  some v26)
noncomputable def m72 (a0 : Int) : Option Bool :=
 bnd (m71 a0 0 4294967295) fun r3 =>
 some r3
noncomputable def m73 (a0 : Prefix) : Option Int :=
 ck (¬ (wcv .u64 (wsub .i64 32 a0.len)) < 0) <|
 some (wshl .i64 1 (wcv .u64 (wsub .i64 32 a0.len)))
noncomputable def m33_1 (a0 : Prefix) : Option Bool :=
 bnd (m71 a0.len 0 32) fun r3 =>
 br r3 (
  bnd (m72 a0.addr) fun r7 =>
  br r7 (
   bnd (m73 a0) fun r11 =>
   ck (¬ r11 = 0) <|
   some (eqI (wrem .i64 a0.addr r11) 0)) (
   some false)) (
  some false)
noncomputable def m33 (a0 : Prefix) : Option Bool :=
 bnd (m33_1 a0) fun v15 =>
 some v15
noncomputable def m34_1b (a0 : Attrs) (p1 : Int) (s12 : Int) : Option (Ctl Int (Unit ⊕ Unit)) :=
 br (ltI s12 p1) (
  bnd (idx a0.path s12) fun x14 =>
  bnd (m71 x14 1 65535) fun r21 =>
  br r21 (
   some (.nxt (wadd .i64 s12 1))) (
   some (.out (.inr ())))) (
  some (.out (.inl ())))
noncomputable def m34_4 (s46 : Int) (x48 : Int) (a0 : Attrs) : Option Bool :=
 bnd (m71 x48 0 1000000) fun r55 =>
 br r55 (
  br (ltI 0 s46) (
   bnd (idx a0.comms (wsub .i64 s46 1)) fun x58 =>
   some (leI x48 x58)) (
   some false)) (
  some true)
noncomputable def m34_2b (a0 : Attrs) (p25 : Int) (s46 : Int) : Option (Ctl Int (Unit ⊕ Unit)) :=
 br (ltI s46 p25) (
  bnd (idx a0.comms s46) fun x48 =>
  bnd (m34_4 s46 x48 a0) fun v65 =>
  br v65 (
   some (.out (.inr ()))) (
   some (.nxt (wadd .i64 s46 1)))) (
  some (.out (.inl ())))
noncomputable def m34_5 (a0 : Attrs) : Option Bool :=
 bnd (m71 a0.origin 0 2) fun r71 =>
 br r71 (
  br (leI (↑a0.path.length : Int) 10) (
   bnd (m72 a0.next) fun r76 =>
   br r76 (
    bnd (m71 a0.med 0 1000000) fun r80 =>
    br r80 (
     bnd (m71 a0.pref 0 1000000) fun r84 =>
     br r84 (
      some (leI (↑a0.comms.length : Int) 6)) (
      some false)) (
     some false)) (
    some false)) (
   some false)) (
  some false)
noncomputable def m34 (a0 : Attrs) : Option Bool :=
 bnd (loopP (m34_1b a0 (↑a0.path.length : Int)) 0) fun o => selS o (fun _ =>
  bnd (loopP (m34_2b a0 (↑a0.comms.length : Int)) 0) fun o => selS o (fun _ =>
   bnd (m34_5 a0) fun v88 =>
   some v88) (fun _ =>
   some false)) (fun _ =>
  some false)
noncomputable def m9_1 (a0 : Route) : Option Bool :=
 bnd (m33 a0.prefix_) fun r3 =>
 br r3 (
  bnd (m34 a0.attrs) fun r7 =>
  some r7) (
  some false)
noncomputable def m9 (a0 : Route) : Option Bool :=
 bnd (m9_1 a0) fun v10 =>
 some v10
noncomputable def m89 (a0 : Attrs) : Option Attrs :=
 ck (0 + a0.path.length ≤ 68719476736) <|
 ck (0 + a0.comms.length ≤ 68719476736) <|
 some a0
noncomputable def m90_3 (a1 : Int) (s11 : Int) (a0 : (List Int)) : Option Bool :=
 br (ltI s11 (↑a0.length : Int)) (
  bnd (idx a0 s11) fun x13 =>
  some (ltI x13 a1)) (
  some false)
noncomputable def m90_1b (a1 : Int) (a0 : (List Int)) (s11 : Int) : Option (Ctl Int Int) :=
 bnd (m90_3 a1 s11 a0) fun v20 =>
 br v20 (
  some (.nxt (wadd .i64 s11 1))) (
  some (.out s11))
noncomputable def m90_4 (a1 : Int) (v24 : Int) (a0 : (List Int)) : Option Bool :=
 br (ltI v24 (↑a0.length : Int)) (
  bnd (idx a0 v24) fun x26 =>
  some (eqI x26 a1)) (
  some false)
noncomputable def m90 (a0 : (List Int)) (a1 : Int) : Option (List Int) :=
 bnd (loopP (m90_1b a1 a0) 0) fun v24 =>
 bnd (m90_4 a1 v24 a0) fun v33 =>
 br v33 (
  some a0) (
  ck (0 ≤ v24 ∧ v24 ≤ (↑a0.length : Int)) <|
  ck ((a0.take v24.toNat).length ≤ 68719476736) <|
  ck ((a0.take v24.toNat).length + 1 ≤ 68719476736) <|
  ck (0 ≤ v24 ∧ v24 ≤ (↑a0.length : Int)) <|
  ck (((a0.take v24.toNat) ++ [a1]).length + ((a0.drop v24.toNat).take (a0.length - v24.toNat)).length ≤ 68719476736) <|
  some (((a0.take v24.toNat) ++ [a1]) ++ ((a0.drop v24.toNat).take (a0.length - v24.toNat))))
noncomputable def m49_7 (x31 : Int) (p36 : Bool) (s29 : List Int) : Option (List Int) :=
 br p36 (
  ck (s29.length + 1 ≤ 68719476736) <|
  some (s29 ++ [x31])) (
  some s29)
noncomputable def m49_5b (a1 : Route) (p16 : Int) (a0 : Acn) (p : (Int × List Int)) : Option (Ctl (Int × List Int) (List Int)) :=
 sel2 p fun s28 s29 =>
 br (ltI s28 p16) (
  bnd (idx a1.attrs.comms s28) fun x31 =>
  bnd (m49_7 x31 (!(eqI x31 a0.n)) s29) fun v41 =>
  some (.nxt (wadd .i64 s28 1, v41))) (
  some (.out s29))
noncomputable def m49_8 (p45 : Bool) (a0 : Acn) (a1 : Route) (r3 : Attrs) : Option (List Int) :=
 br p45 (
  ck (1 + a1.attrs.path.length ≤ 68719476736) <|
  some ([a0.n] ++ a1.attrs.path)) (
  some r3.path)
noncomputable def m49_4 (a0 : Acn) (p14 : Bool) (a1 : Route) (r3 : Attrs) : Option (List Int × List Int) :=
 br p14 (
  bnd (loopP (m49_5b a1 (↑a1.attrs.comms.length : Int) a0) (0, [])) fun v44 =>
  some (r3.path, v44)) (
  bnd (m49_8 (eqI a0.kind 5) a0 a1 r3) fun v50 =>
  some (v50, r3.comms))
noncomputable def m49_3 (a0 : Acn) (p9 : Bool) (a1 : Route) (r3 : Attrs) : Option (List Int × List Int) :=
 br p9 (
  bnd (m90 r3.comms a0.n) fun r13 =>
  some (r3.path, r13)) (
  bnd (m49_4 a0 (eqI a0.kind 4) a1 r3) fun p => sel2 p fun v53 v54 =>
  some (v53, v54))
noncomputable def m49_2 (a0 : Acn) (p7 : Bool) (a1 : Route) (r3 : Attrs) : Option (Int × List Int × List Int) :=
 br p7 (
  some (a0.n, r3.path, r3.comms)) (
  bnd (m49_3 a0 (eqI a0.kind 3) a1 r3) fun p => sel2 p fun v57 v58 =>
  some (r3.med, v57, v58))
noncomputable def m49_1 (a0 : Acn) (p4 : Bool) (a1 : Route) (r3 : Attrs) : Option (Int × Int × List Int × List Int) :=
 br p4 (
  some (r3.med, a0.n, r3.path, r3.comms)) (
  bnd (m49_2 a0 (eqI a0.kind 2) a1 r3) fun p => sel3 p fun v61 v62 v63 =>
  some (v61, r3.pref, v62, v63))
noncomputable def m49 (a0 : Acn) (a1 : Route) : Option Route :=
 bnd (m89 a1.attrs) fun r3 =>
 bnd (m49_1 a0 (eqI a0.kind 1) a1 r3) fun p => sel4 p fun v66 v67 v68 v69 =>
 some (⟨a1.prefix_, (⟨r3.origin, v68, r3.next, v66, v67, v69⟩ : Attrs)⟩ : Route)
noncomputable def m18_1 (a0 : Acn) (a1 : Route) : Option Bool :=
 bnd (m48 a0) fun r4 =>
 br r4 (
  bnd (m9 a1) fun r8 =>
  some (!r8)) (
  some true)
noncomputable def m18 (a0 : Acn) (a1 : Route) : Option (Route × Bool) :=
 bnd (m18_1 a0 a1) fun v11 =>
 br v11 (
  some ((⟨(⟨0, 0⟩ : Prefix), (⟨0, [], 0, 0, 0, []⟩ : Attrs)⟩ : Route), false)) (
  bnd (m49 a0 a1) fun r15 =>
  bnd (m9 r15) fun r18 =>
  br r18 (
   some (r15, true)) (
   some ((⟨(⟨0, 0⟩ : Prefix), (⟨0, [], 0, 0, 0, []⟩ : Attrs)⟩ : Route), false)))
noncomputable def m75_1 (a0 : Int) (a1 : Int) (a2 : Int) : Option Bool :=
 br (leI a1 a0) (
  some (leI a0 a2)) (
  some false)
noncomputable def m75 (a0 : Int) (a1 : Int) (a2 : Int) : Option Bool :=
 bnd (m75_1 a0 a1 a2) fun v4 =>
 some v4
noncomputable def m79 (a0 : Int) : Option Bool :=
 bnd (m75 a0 0 1000000) fun r3 =>
 some r3
noncomputable def m91 (a0 : Int) : Option Bool :=
 bnd (m75 a0 1 65535) fun r3 =>
 some r3
noncomputable def m50_3 (a0 : Acn) (p5 : Bool) : Option Bool :=
 br p5 (
  some p5) (
  some (eqI a0.kind 4))
noncomputable def m50_2 (a0 : Acn) (p3 : Bool) : Option Bool :=
 br p3 (
  some p3) (
  bnd (m50_3 a0 (eqI a0.kind 3)) fun v9 =>
  some v9)
noncomputable def m50_1 (a0 : Acn) (p1 : Bool) : Option Bool :=
 br p1 (
  some p1) (
  bnd (m50_2 a0 (eqI a0.kind 2)) fun v12 =>
  some v12)
noncomputable def m50 (a0 : Acn) : Option Bool :=
 bnd (m50_1 a0 (eqI a0.kind 1)) fun v15 =>
 br v15 (
  bnd (m79 a0.n) fun r19 =>
  some r19) (
  br (eqI a0.kind 5) (
   bnd (m91 a0.n) fun r23 =>
   some r23) (
   some false))
noncomputable def m76 (a0 : Int) : Option Bool :=
 bnd (m75 a0 0 4294967295) fun r3 =>
 some r3
noncomputable def m77 (a0 : Int) : Option Int :=
 ck (¬ (wsub .i64 32 a0) < 0) <|
 some (wshl .i64 1 (wsub .i64 32 a0))
noncomputable def m37_1 (a0 : Prefix) : Option Bool :=
 bnd (m75 a0.len 0 32) fun r3 =>
 br r3 (
  bnd (m76 a0.addr) fun r7 =>
  br r7 (
   bnd (m77 a0.len) fun r11 =>
   ck (¬ r11 = 0) <|
   some (eqI (wrem .i64 a0.addr r11) 0)) (
   some false)) (
  some false)
noncomputable def m37 (a0 : Prefix) : Option Bool :=
 bnd (m37_1 a0) fun v15 =>
 some v15
noncomputable def m133_1b (a0 : (List Int)) (p1 : Int) (a1 : (Int → Option Bool)) (s12 : Int) : Option (Ctl Int (Unit ⊕ Int)) :=
 br (ltI s12 p1) (
  bnd (idx a0 s12) fun x14 =>
  bnd (a1 x14) fun r19 =>
  br r19 (
   some (.out (.inr s12))) (
   some (.nxt (wadd .i64 s12 1)))) (
  some (.out (.inl ())))
noncomputable def m133 (a0 : (List Int)) (a1 : (Int → Option Bool)) : Option Int :=
 bnd (loopP (m133_1b a0 (↑a0.length : Int) a1) 0) fun o => selS o (fun _ =>
  some (-1)) (fun v25 =>
  some v25)
noncomputable def m120 (a0 : (List Int)) (a1 : (Int → Option Bool)) : Option Bool :=
 bnd (m133 a0 a1) fun r3 =>
 some (leI 0 r3)
noncomputable def m121 (a0 : Int) : Option Bool :=
 bnd (m91 a0) fun r3 =>
 some (!r3)
noncomputable def m78_1 (a0 : (List Int)) : Option Bool :=
 br (leI (↑a0.length : Int) 10) (
  bnd (m120 a0 (fun y0 => m121 y0)) fun r4 =>
  some (!r4)) (
  some false)
noncomputable def m78 (a0 : (List Int)) : Option Bool :=
 bnd (m78_1 a0) fun v7 =>
 some v7
noncomputable def m80_3 (a0 : (List Int)) (s22 : Int) (x24 : Int) : Option Bool :=
 bnd (m79 x24) fun r31 =>
 br r31 (
  br (ltI 0 s22) (
   bnd (idx a0 (wsub .i64 s22 1)) fun x34 =>
   some (leI x24 x34)) (
   some false)) (
  some true)
noncomputable def m80_1b (a0 : (List Int)) (p1 : Int) (s22 : Int) : Option (Ctl Int (Unit ⊕ Unit)) :=
 br (ltI s22 p1) (
  bnd (idx a0 s22) fun x24 =>
  bnd (m80_3 a0 s22 x24) fun v41 =>
  br v41 (
   some (.out (.inr ()))) (
   some (.nxt (wadd .i64 s22 1)))) (
  some (.out (.inl ())))
noncomputable def m80 (a0 : (List Int)) : Option Bool :=
 bnd (loopP (m80_1b a0 (↑a0.length : Int)) 0) fun o => selS o (fun _ =>
  some (leI (↑a0.length : Int) 6)) (fun _ =>
  some false)
noncomputable def m38_1 (a0 : Attrs) : Option Bool :=
 bnd (m75 a0.origin 0 2) fun r3 =>
 br r3 (
  bnd (m78 a0.path) fun r7 =>
  br r7 (
   bnd (m76 a0.next) fun r11 =>
   br r11 (
    bnd (m79 a0.med) fun r15 =>
    br r15 (
     bnd (m79 a0.pref) fun r19 =>
     br r19 (
      bnd (m80 a0.comms) fun r23 =>
      some r23) (
      some false)) (
     some false)) (
    some false)) (
   some false)) (
  some false)
noncomputable def m38 (a0 : Attrs) : Option Bool :=
 bnd (m38_1 a0) fun v26 =>
 some v26
noncomputable def m11_1 (a0 : Route) : Option Bool :=
 bnd (m37 a0.prefix_) fun r3 =>
 br r3 (
  bnd (m38 a0.attrs) fun r7 =>
  some r7) (
  some false)
noncomputable def m11 (a0 : Route) : Option Bool :=
 bnd (m11_1 a0) fun v10 =>
 some v10
noncomputable def m146 (a0 : (List Int)) : Option (List Int) :=
 ck (0 + a0.length ≤ 68719476736) <|
 some a0
noncomputable def m128 (a0 : Attrs) : Option Attrs :=
 bnd (m146 a0.path) fun r3 =>
 bnd (m146 a0.comms) fun r6 =>
 some (⟨a0.origin, r3, a0.next, a0.med, a0.pref, r6⟩ : Attrs)
noncomputable def m92 (a0 : Route) : Option Route :=
 bnd (m128 a0.attrs) fun r3 =>
 some (⟨a0.prefix_, r3⟩ : Route)
noncomputable def m147 (a0 : Int) : Option Bool :=
 some (!(eqI a0 a0))
noncomputable def m129_1 (a0 : Int) (a1 : Int) : Option Bool :=
 bnd (m147 a0) fun r3 =>
 br r3 (
  bnd (m147 a1) fun r7 =>
  br r7 (
   some (ltI a0 a1)) (
   some true)) (
  some (ltI a0 a1))
noncomputable def m129 (a0 : Int) (a1 : Int) : Option Bool :=
 bnd (m129_1 a0 a1) fun v11 =>
 some v11
noncomputable def m130 (a0 : Int) : Option Bool :=
 some (!(eqI a0 a0))
noncomputable def m93_3 (s18 : Int) (s19 : Int) (p29 : Int) (r28 : Bool) : Option (Int × Int) :=
 br r28 (
  some (wadd .i64 p29 1, s19)) (
  some (s18, p29))
noncomputable def m93_1b (a0 : (List Int)) (a1 : Int) (p : (Int × Int)) : Option (Ctl (Int × Int) Int) :=
 sel2 p fun s18 s19 =>
 br (ltI s18 s19) (
  bnd (idx a0 (wcv .i64 (wshr .u64 (wcv .u64 (wadd .i64 s18 s19)) 1))) fun x21 =>
  bnd (m129 x21 a1) fun r28 =>
  bnd (m93_3 s18 s19 (wcv .i64 (wshr .u64 (wcv .u64 (wadd .i64 s18 s19)) 1)) r28) fun p => sel2 p fun v33 v34 =>
  some (.nxt (v33, v34))) (
  some (.out s18))
noncomputable def m93_4 (a0 : (List Int)) (a1 : Int) (p38 : Int) (v37 : Int) : Option Bool :=
 br (ltI v37 p38) (
  bnd (idx a0 v37) fun x40 =>
  br (eqI x40 a1) (
   some true) (
   bnd (m130 x40) fun r48 =>
   br r48 (
    bnd (m130 a1) fun r52 =>
    some r52) (
    some false))) (
  some false)
noncomputable def m93 (a0 : (List Int)) (a1 : Int) : Option (Int × Bool) :=
 bnd (loopP (m93_1b a0 a1) (0, (↑a0.length : Int))) fun v37 =>
 bnd (m93_4 a0 a1 (↑a0.length : Int) v37) fun v55 =>
 some (v37, v55)
noncomputable def m95_3 (s26 : Int) (x30 : Int) (p38 : Bool) (s28 : List Int) : Option (Int × List Int) :=
 br p38 (
  bnd (idx s28 s26) fun x40 =>
  some (wadd .i64 s26 1, s28.set s26.toNat x30)) (
  some (s26, s28))
noncomputable def m95_1b (a1 : (Int → Option Bool)) (p : (Int × Int × List Int)) : Option (Ctl (Int × Int × List Int) (Int × List Int)) :=
 sel3 p fun s26 s27 s28 =>
 br (ltI s27 (↑s28.length : Int)) (
  bnd (idx s28 s27) fun x30 =>
  bnd (a1 x30) fun r35 =>
  bnd (m95_3 s26 x30 (!r35) s28) fun p => sel2 p fun v47 v48 =>
  some (.nxt (v47, wadd .i64 s27 1, v48))) (
  some (.out (s26, s28)))
noncomputable def m95 (a0 : (List Int)) (a1 : (Int → Option Bool)) : Option (List Int) :=
 bnd (m133 a0 a1) fun r3 =>
 br (eqI r3 (-1)) (
  some a0) (
  bnd (loopP (m95_1b a1) (r3, wadd .i64 r3 1, a0)) fun p => sel2 p fun v51 v52 =>
  ck (0 ≤ v51 ∧ v51 ≤ (↑v52.length : Int)) <|
  ck (0 ≤ v51 ∧ v51 ≤ (↑(((v52.take v51.toNat).drop 0).take v52.length).length : Int)) <|
  some (v52.take v51.toNat))
noncomputable def m96 (a0 : Int) (a1 : Acn) : Option Bool :=
 some (eqI a0 a1.n)
noncomputable def m51_4 (r13 : Int) (p15 : Bool) (a0 : Acn) (r3 : Route) : Option (List Int) :=
 br p15 (
  ck (0 ≤ r13 ∧ r13 ≤ (↑r3.attrs.comms.length : Int) ∧ r3.attrs.comms.length + 1 ≤ 68719476736) <|
  some (r3.attrs.comms.take r13.toNat ++ [a0.n] ++ r3.attrs.comms.drop r13.toNat)) (
  some r3.attrs.comms)
noncomputable def m51_6 (p27 : Bool) (a0 : Acn) (r3 : Route) : Option (List Int) :=
 br p27 (
  ck (0 ≤ 0 ∧ 0 ≤ (↑r3.attrs.path.length : Int) ∧ r3.attrs.path.length + 1 ≤ 68719476736) <|
  some (r3.attrs.path.take 0 ++ [a0.n] ++ r3.attrs.path.drop 0)) (
  some r3.attrs.path)
noncomputable def m51_5 (a0 : Acn) (p22 : Bool) (r3 : Route) : Option (List Int × List Int) :=
 br p22 (
  bnd (m95 r3.attrs.comms (fun y0 => m96 y0 a0)) fun r26 =>
  some (r3.attrs.path, r26)) (
  bnd (m51_6 (eqI a0.kind 5) a0 r3) fun v33 =>
  some (v33, r3.attrs.comms))
noncomputable def m51_3 (a0 : Acn) (p9 : Bool) (r3 : Route) : Option (List Int × List Int) :=
 br p9 (
  bnd (m93 r3.attrs.comms a0.n) fun p => sel2 p fun r13 r14 =>
  bnd (m51_4 r13 (!r14) a0 r3) fun v21 =>
  some (r3.attrs.path, v21)) (
  bnd (m51_5 a0 (eqI a0.kind 4) r3) fun p => sel2 p fun v36 v37 =>
  some (v36, v37))
noncomputable def m51_2 (a0 : Acn) (p7 : Bool) (r3 : Route) : Option (Int × List Int × List Int) :=
 br p7 (
  some (a0.n, r3.attrs.path, r3.attrs.comms)) (
  bnd (m51_3 a0 (eqI a0.kind 3) r3) fun p => sel2 p fun v40 v41 =>
  some (r3.attrs.med, v40, v41))
noncomputable def m51_1 (a0 : Acn) (p4 : Bool) (r3 : Route) : Option (Int × Int × List Int × List Int) :=
 br p4 (
  some (r3.attrs.med, a0.n, r3.attrs.path, r3.attrs.comms)) (
  bnd (m51_2 a0 (eqI a0.kind 2) r3) fun p => sel3 p fun v44 v45 v46 =>
  some (v44, r3.attrs.pref, v45, v46))
noncomputable def m51 (a0 : Acn) (a1 : Route) : Option (Route × Bool) :=
 bnd (m92 a1) fun r3 =>
 bnd (m51_1 a0 (eqI a0.kind 1) r3) fun p => sel4 p fun v49 v50 v51 v52 =>
 bnd (m11 (⟨r3.prefix_, (⟨r3.attrs.origin, v51, r3.attrs.next, v49, v50, v52⟩ : Attrs)⟩ : Route)) fun r55 =>
 some ((⟨r3.prefix_, (⟨r3.attrs.origin, v51, r3.attrs.next, v49, v50, v52⟩ : Attrs)⟩ : Route), r55)
noncomputable def m20_1 (a0 : Acn) (a1 : Route) : Option Bool :=
 bnd (m50 a0) fun r4 =>
 br r4 (
  bnd (m11 a1) fun r8 =>
  some (!r8)) (
  some true)
noncomputable def m20 (a0 : Acn) (a1 : Route) : Option (Route × Bool) :=
 bnd (m20_1 a0 a1) fun v11 =>
 br v11 (
  some ((⟨(⟨0, 0⟩ : Prefix), (⟨0, [], 0, 0, 0, []⟩ : Attrs)⟩ : Route), false)) (
  bnd (m51 a0 a1) fun p => sel2 p fun r15 r16 =>
  br r16 (
   some (r15, true)) (
   some ((⟨(⟨0, 0⟩ : Prefix), (⟨0, [], 0, 0, 0, []⟩ : Attrs)⟩ : Route), false)))
noncomputable def m39 (a0 : Prefix) (a1 : Prefix) : Option Bool :=
 br (eqI a0.addr a1.addr) (
  br (eqI a0.len a1.len) (
   some true) (
   some false)) (
  some false)
noncomputable def m81_1b (a0 : (List Int)) (a1 : (List Int)) (s14 : Int) : Option (Ctl Int (Unit ⊕ Unit)) :=
 br (ltI s14 (↑a0.length : Int)) (
  bnd (idx a0 s14) fun x16 =>
  bnd (idx a1 s14) fun x21 =>
  br (eqI x16 x21) (
   some (.nxt (wadd .i64 s14 1))) (
   some (.out (.inr ())))) (
  some (.out (.inl ())))
noncomputable def m81 (a0 : (List Int)) (a1 : (List Int)) : Option Bool :=
 br (eqI (↑a0.length : Int) (↑a1.length : Int)) (
  bnd (loopP (m81_1b a0 a1) 0) fun o => selS o (fun _ =>
   some true) (fun _ =>
   some false)) (
  some false)
noncomputable def m40 (a0 : Attrs) (a1 : Attrs) : Option Bool :=
 br (eqI a0.origin a1.origin) (
  bnd (m81 a0.path a1.path) fun r4 =>
  br r4 (
   br (eqI a0.next a1.next) (
    br (eqI a0.med a1.med) (
     br (eqI a0.pref a1.pref) (
      bnd (m81 a0.comms a1.comms) fun r11 =>
      br r11 (
       some true) (
       some false)) (
      some false)) (
     some false)) (
    some false)) (
   some false)) (
  some false)
noncomputable def m12 (a0 : Route) (a1 : Route) : Option Bool :=
 bnd (m39 a0.prefix_ a1.prefix_) fun r3 =>
 br r3 (
  bnd (m40 a0.attrs a1.attrs) fun r7 =>
  br r7 (
   some true) (
   some false)) (
  some false)
noncomputable def m97_1b (p : (Int × Int × List Int)) : Option (Ctl (Int × Int × List Int) (Int × List Int)) :=
 sel3 p fun s7 s8 s9 =>
 br (ltI s8 (↑s9.length : Int)) (
  bnd (idx s9 s8) fun x11 =>
  some (.nxt (wadd .i64 s7 1, wadd .i64 s8 1, s9.set s8.toNat s7))) (
  some (.out (s7, s9)))
noncomputable def m97 (a0 : (List Int)) (a1 : Int) : Option (Int × List Int) :=
 bnd (loopP (m97_1b) (a1, 0, a0)) fun p => sel2 p fun v18 v19 =>
 some (v18, v19)
noncomputable def m52 (a0 : Attrs) (a1 : Int) : Option (Int × List Int × List Int) :=
 bnd (m97 a0.path a1) fun p => sel2 p fun r3 r4 =>
 ck (r4.length = a0.path.length) <|
 bnd (m97 a0.comms r3) fun p => sel2 p fun r8 r9 =>
 ck (r9.length = a0.comms.length) <|
 some (r8, r4, r9)
noncomputable def m21 (a0 : Route) (a1 : Int) : Option (Int × List Int × List Int) :=
 bnd (m52 a0.attrs a1) fun p => sel3 p fun r3 r4 r5 =>
 ck (r4.length = a0.attrs.path.length) <|
 ck (r5.length = a0.attrs.comms.length) <|
 some (r3, r4, r5)
noncomputable def m98_1b (a0 : (List Int)) (p : (Int × Int)) : Option (Ctl (Int × Int) (Int ⊕ Unit)) :=
 sel2 p fun s8 s9 =>
 br (ltI s9 (↑a0.length : Int)) (
  bnd (idx a0 s9) fun x11 =>
  br (eqI x11 s8) (
   some (.nxt (wadd .i64 s8 1, wadd .i64 s9 1))) (
   some (.out (.inr ())))) (
  some (.out (.inl s8)))
noncomputable def m98 (a0 : (List Int)) (a1 : Int) : Option Int :=
 bnd (loopP (m98_1b a0) (a1, 0)) fun o => selS o (fun v19 =>
  some v19) (fun _ =>
  some (-1))
noncomputable def m53 (a0 : Attrs) (a1 : Int) : Option Int :=
 bnd (m98 a0.path a1) fun r3 =>
 br (ltI r3 0) (
  some (-1)) (
  bnd (m98 a0.comms r3) fun r7 =>
  br (ltI r7 0) (
   some (-1)) (
   some r7))
noncomputable def m22 (a0 : Route) (a1 : Int) : Option Int :=
 bnd (m53 a0.attrs a1) fun r3 =>
 br (ltI r3 0) (
  some (-1)) (
  some r3)
noncomputable def m5_1 (r14 : Bool) (r22 : Bool) (r13 : Route) (r21 : Route) : Option Bool :=
 bnd (m12 r21 r13) fun r25 =>
 br r25 (
  some (!eqB r22 r14)) (
  some true)
noncomputable def m5_2 (r14 : Bool) (r22 : Bool) (r39 : Int) (r13 : Route) (r21 : Route) : Option Bool :=
 br (ltI r39 0) (
  some true) (
  bnd (m12 r21 r13) fun r47 =>
  br r47 (
   some (!eqB r22 r14)) (
   some true))
noncomputable def m5_3 (r14 : Bool) (r22 : Bool) (r13 : Route) (r21 : Route) : Option Bool :=
 bnd (m12 r21 r13) fun r73 =>
 br r73 (
  some (!eqB r22 r14)) (
  some true)
noncomputable def m5 (a0 : Acn) (a1 : Route) : Option Bool :=
 bnd (m8 a1 1048576) fun r3 =>
 br (ltI r3 0) (
  some true) (
  bnd (m19 a0) fun r7 =>
  bnd (m10 a1) fun r10 =>
  bnd (m18 r7 r10) fun p => sel2 p fun r13 r14 =>
  bnd (m20 r7 r10) fun p => sel2 p fun r21 r22 =>
  bnd (m5_1 r14 r22 r13 r21) fun v29 =>
  br v29 (
   some false) (
   bnd (m12 r10 r10) fun r35 =>
   br r35 (
    bnd (m21 r10 1) fun p => sel3 p fun r39 r40 r41 =>
    ck (r40.length = r10.attrs.path.length) <|
    ck (r41.length = r10.attrs.comms.length) <|
    bnd (m5_2 r14 r22 r39 r13 r21) fun v51 =>
    br v51 (
     some false) (
     bnd (m21 r21 1) fun p => sel3 p fun r55 r56 r57 =>
     ck (r56.length = r21.attrs.path.length) <|
     ck (r57.length = r21.attrs.comms.length) <|
     bnd (m22 (⟨r21.prefix_, (⟨r21.attrs.origin, r56, r21.attrs.next, r21.attrs.med, r21.attrs.pref, r57⟩ : Attrs)⟩ : Route) 1) fun r62 =>
     br (ltI r62 0) (
      some false) (
      br (eqI r62 r55) (
       bnd (m5_3 r14 r22 r13 r21) fun v77 =>
       br v77 (
        some false) (
        some true)) (
       some false)))) (
    some false)))
end Go.Pi.Ythidbgihjhkjaaa.ActOn
