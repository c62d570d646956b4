/- no condition -/
import Derived.Test.YthidbgihjhkjaaaPiD
set_option linter.all false
namespace Go.Pi.Ythidbgihjhkjaaa.TermFits
open Go Go.Pi
set_option maxRecDepth 100000
set_option linter.all false
def wfInt (x : Int) : Prop := -9223372036854775808 ≤ x ∧ x ≤ 9223372036854775807
structure Prefix where
 addr : Int
 len : Int
 deriving Inhabited, DecidableEq
def wfPrefix (x : Prefix) : Prop := wfInt x.addr ∧ wfInt x.len
structure Range where
 prefix_ : Prefix
 lo : Int
 hi : Int
 deriving Inhabited, DecidableEq
def wfRange (x : Range) : Prop := wfPrefix x.prefix_ ∧ wfInt x.lo ∧ wfInt x.hi
def wfLRange (x : (List Range)) : Prop := x.length ≤ 9223372036854775807 ∧ ∀ y ∈ x, wfRange y
structure ReCell where
 kind : Int
 n : Int
 deriving Inhabited, DecidableEq
def wfReCell (x : ReCell) : Prop := wfInt x.kind ∧ wfInt x.n
def wfLReCell (x : (List ReCell)) : Prop := x.length ≤ 9223372036854775807 ∧ ∀ y ∈ x, wfReCell y
structure Acn where
 kind : Int
 n : Int
 deriving Inhabited, DecidableEq
def wfAcn (x : Acn) : Prop := wfInt x.kind ∧ wfInt x.n
def wfLAcn (x : (List Acn)) : Prop := x.length ≤ 9223372036854775807 ∧ ∀ y ∈ x, wfAcn y
structure Term where
 ranges : (List Range)
 path : (List ReCell)
 comm : Int
 acts : (List Acn)
 verdict : Int
 deriving Inhabited, DecidableEq
def wfTerm (x : Term) : Prop := wfLRange x.ranges ∧ wfLReCell x.path ∧ wfInt x.comm ∧ wfLAcn x.acts ∧ wfInt x.verdict
def wfLInt (x : (List Int)) : Prop := x.length ≤ 9223372036854775807 ∧ ∀ y ∈ x, wfInt y
structure Attrs where
 origin : Int
 path : (List Int)
 next : Int
 med : Int
 pref : Int
 comms : (List Int)
 deriving Inhabited, DecidableEq
def wfAttrs (x : Attrs) : Prop := wfInt x.origin ∧ wfLInt x.path ∧ wfInt x.next ∧ wfInt x.med ∧ wfInt x.pref ∧ wfLInt x.comms
structure Route where
 prefix_ : Prefix
 attrs : Attrs
 deriving Inhabited, DecidableEq
def wfRoute (x : Route) : Prop := wfPrefix x.prefix_ ∧ wfAttrs x.attrs
def wfBool (x : Bool) : Prop := True
inductive l6T where
 | mk (kind_ : Int) (n_ : Int) (kids_ : (List l6T))
def l6T.kind_ : l6T → Int
 | .mk x _ _ => x
def l6T.n_ : l6T → Int
 | .mk _ x _ => x
def l6T.kids_ : l6T → (List l6T)
 | .mk _ _ x => x
instance : Inhabited l6T := ⟨.mk 0 0 []⟩
theorem l6T.eta (x : l6T) : x = ⟨x.kind_, x.n_, x.kids_⟩ := by cases x; rfl
def wfl6T (x : l6T) : Prop := True
def wfLl6T (x : (List l6T)) : Prop := x.length ≤ 9223372036854775807 ∧ ∀ y ∈ x, wfl6T y
inductive pattern where
 | mk (cell : ReCell) (parts : (List pattern))
def pattern.cell : pattern → ReCell
 | .mk x _ => x
def pattern.parts : pattern → (List pattern)
 | .mk _ x => x
instance : Inhabited pattern := ⟨.mk (⟨0, 0⟩ : ReCell) []⟩
theorem pattern.eta (x : pattern) : x = ⟨x.cell, x.parts⟩ := by cases x; rfl
def wfpattern (x : pattern) : Prop := True
def wfPpattern (x : pattern) : Prop := True
def wfLPpattern (x : (List pattern)) : Prop := x.length ≤ 9223372036854775807 ∧ ∀ y ∈ x, wfPpattern y
noncomputable def m59 (a0 : (List Range)) (a1 : Int) : Option Int :=
 br (ltI (wsub .i64 a1 (↑a0.length : Int)) 0) (
  some (-1)) (
  some (wsub .i64 a1 (↑a0.length : Int)))
noncomputable def m60 (a0 : (List ReCell)) (a1 : Int) : Option Int :=
 br (ltI (wsub .i64 a1 (↑a0.length : Int)) 0) (
  some (-1)) (
  some (wsub .i64 a1 (↑a0.length : Int)))
noncomputable def m61 (a0 : (List Acn)) (a1 : Int) : Option Int :=
 br (ltI (wsub .i64 a1 (↑a0.length : Int)) 0) (
  some (-1)) (
  some (wsub .i64 a1 (↑a0.length : Int)))
noncomputable def m27 (a0 : Term) (a1 : Int) : Option Int :=
 bnd (m59 a0.ranges a1) fun r3 =>
 br (ltI r3 0) (
  some (-1)) (
  bnd (m60 a0.path r3) fun r7 =>
  br (ltI r7 0) (
   some (-1)) (
   bnd (m61 a0.acts r7) fun r11 =>
   br (ltI r11 0) (
    some (-1)) (
    some r11)))
noncomputable def m70 (a0 : (List Int)) (a1 : Int) : Option Int :=
 br (ltI (wsub .i64 a1 (↑a0.length : Int)) 0) (
  some (-1)) (
  some (wsub .i64 a1 (↑a0.length : Int)))
noncomputable def m32 (a0 : Attrs) (a1 : Int) : Option Int :=
 bnd (m70 a0.path a1) fun r3 =>
 br (ltI r3 0) (
  some (-1)) (
  bnd (m70 a0.comms r3) fun r7 =>
  br (ltI r7 0) (
   some (-1)) (
   some r7))
noncomputable def m8 (a0 : Route) (a1 : Int) : Option Int :=
 bnd (m32 a0.attrs a1) fun r3 =>
 br (ltI r3 0) (
  some (-1)) (
  some r3)
noncomputable def m35 (a0 : Prefix) : Option Prefix :=
 some a0
noncomputable def m111 (a0 : Range) : Option Range :=
 bnd (m35 a0.prefix_) fun r3 =>
 some (⟨r3, a0.lo, a0.hi⟩ : Range)
noncomputable def m63_1b (a0 : (List Range)) (p : (Int × List Range)) : Option (Ctl (Int × List Range) (List Range)) :=
 sel2 p fun s17 s18 =>
 br (ltI s17 (↑a0.length : Int)) (
  bnd (idx a0 s17) fun x20 =>
  bnd (m111 x20) fun r27 =>
  bnd (idx s18 s17) fun x28 =>
  some (.nxt (wadd .i64 s17 1, s18.set s17.toNat r27))) (
  some (.out s18))
noncomputable def m63 (a0 : (List Range)) : Option (List Range) :=
 ck (0 ≤ (↑a0.length : Int) ∧ (↑a0.length : Int) ≤ (↑a0.length : Int) ∧ (↑a0.length : Int) ≤ 68719476736) <|
 bnd (loopP (m63_1b a0) (0, List.replicate a0.length (⟨(⟨0, 0⟩ : Prefix), 0, 0⟩ : Range))) fun v35 =>
 some v35
noncomputable def m112 (a0 : ReCell) : Option ReCell :=
 some a0
noncomputable def m64_1b (a0 : (List ReCell)) (p : (Int × List ReCell)) : Option (Ctl (Int × List ReCell) (List ReCell)) :=
 sel2 p fun s17 s18 =>
 br (ltI s17 (↑a0.length : Int)) (
  bnd (idx a0 s17) fun x20 =>
  bnd (m112 x20) fun r27 =>
  bnd (idx s18 s17) fun x28 =>
  some (.nxt (wadd .i64 s17 1, s18.set s17.toNat r27))) (
  some (.out s18))
noncomputable def m64 (a0 : (List ReCell)) : Option (List ReCell) :=
 ck (0 ≤ (↑a0.length : Int) ∧ (↑a0.length : Int) ≤ (↑a0.length : Int) ∧ (↑a0.length : Int) ≤ 68719476736) <|
 bnd (loopP (m64_1b a0) (0, List.replicate a0.length (⟨0, 0⟩ : ReCell))) fun v35 =>
 some v35
noncomputable def m19 (a0 : Acn) : Option Acn :=
 some a0
noncomputable def m65_1b (a0 : (List Acn)) (p : (Int × List Acn)) : Option (Ctl (Int × List Acn) (List Acn)) :=
 sel2 p fun s17 s18 =>
 br (ltI s17 (↑a0.length : Int)) (
  bnd (idx a0 s17) fun x20 =>
  bnd (m19 x20) fun r27 =>
  bnd (idx s18 s17) fun x28 =>
  some (.nxt (wadd .i64 s17 1, s18.set s17.toNat r27))) (
  some (.out s18))
noncomputable def m65 (a0 : (List Acn)) : Option (List Acn) :=
 ck (0 ≤ (↑a0.length : Int) ∧ (↑a0.length : Int) ≤ (↑a0.length : Int) ∧ (↑a0.length : Int) ≤ 68719476736) <|
 bnd (loopP (m65_1b a0) (0, List.replicate a0.length (⟨0, 0⟩ : Acn))) fun v35 =>
 some v35
noncomputable def m29 (a0 : Term) : Option Term :=
 bnd (m63 a0.ranges) fun r3 =>
 bnd (m64 a0.path) fun r6 =>
 bnd (m65 a0.acts) fun r9 =>
 some (⟨r3, r6, a0.comm, r9, a0.verdict⟩ : Term)
noncomputable def m74_1b (a0 : (List Int)) (p : (Int × List Int)) : Option (Ctl (Int × List Int) (List Int)) :=
 sel2 p fun s14 s15 =>
 br (ltI s14 (↑a0.length : Int)) (
  bnd (idx a0 s14) fun x17 =>
  bnd (idx s15 s14) fun x22 =>
  some (.nxt (wadd .i64 s14 1, s15.set s14.toNat x17))) (
  some (.out s15))
noncomputable def m74 (a0 : (List Int)) : Option (List Int) :=
 ck (0 ≤ (↑a0.length : Int) ∧ (↑a0.length : Int) ≤ (↑a0.length : Int) ∧ (↑a0.length : Int) ≤ 68719476736) <|
 bnd (loopP (m74_1b a0) (0, List.replicate a0.length 0)) fun v29 =>
 some v29
noncomputable def m36 (a0 : Attrs) : Option Attrs :=
 bnd (m74 a0.path) fun r3 =>
 bnd (m74 a0.comms) fun r6 =>
 some (⟨a0.origin, r3, a0.next, a0.med, a0.pref, r6⟩ : Attrs)
noncomputable def m10 (a0 : Route) : Option Route :=
 bnd (m35 a0.prefix_) fun r3 =>
 bnd (m36 a0.attrs) fun r6 =>
 some (⟨r3, r6⟩ : Route)
noncomputable def m71_1 (a0 : Int) (a1 : Int) (a2 : Int) : Option Bool :=
 br (leI a1 a0) (
  some (leI a0 a2)) (
  some false)
noncomputable def m71 (a0 : Int) (a1 : Int) (a2 : Int) : Option Bool :=
 bnd (m71_1 a0 a1 a2) fun v4 =>
 some v4
noncomputable def m72 (a0 : Int) : Option Bool :=
 bnd (m71 a0 0 4294967295) fun r3 =>
 some r3
noncomputable def m73 (a0 : Prefix) : Option Int :=
 ck (¬ (wcv .u64 (wsub .i64 32 a0.len)) < 0) <|
 some (wshl .i64 1 (wcv .u64 (wsub .i64 32 a0.len)))
noncomputable def m33_1 (a0 : Prefix) : Option Bool :=
 bnd (m71 a0.len 0 32) fun r3 =>
 br r3 (
  bnd (m72 a0.addr) fun r7 =>
  br r7 (
   bnd (m73 a0) fun r11 =>
   ck (¬ r11 = 0) <|
   some (eqI (wrem .i64 a0.addr r11) 0)) (
   some false)) (
  some false)
noncomputable def m33 (a0 : Prefix) : Option Bool :=
 bnd (m33_1 a0) fun v15 =>
 some v15
noncomputable def m48_3 (a0 : Acn) (p5 : Bool) : Option Bool :=
 br p5 (
  some p5) (
  some (eqI a0.kind 4))
noncomputable def m48_2 (a0 : Acn) (p3 : Bool) : Option Bool :=
 br p3 (
  some p3) (
  bnd (m48_3 a0 (eqI a0.kind 3)) fun v9 =>
  some v9)
noncomputable def m48_1 (a0 : Acn) (p1 : Bool) : Option Bool :=
 br p1 (
  some p1) (
  bnd (m48_2 a0 (eqI a0.kind 2)) fun v12 =>
  some v12)
noncomputable def m48_4 (a0 : Acn) : Option Bool :=
 br (eqI a0.kind 5) (
  bnd (m71 a0.n 1 65535) fun r23 =>
  some r23) (
  some false)
noncomputable def m48 (a0 : Acn) : Option Bool :=
 bnd (m48_1 a0 (eqI a0.kind 1)) fun v15 =>
 br v15 (
  bnd (m71 a0.n 0 1000000) fun r19 =>
  some r19) (
  bnd (m48_4 a0) fun v26 =>
  some v26)
noncomputable def m154_3 (a0 : Int) (p5 : Bool) : Option Bool :=
 br p5 (
  some p5) (
  some (eqI a0 4))
noncomputable def m154_2 (a0 : Int) (p3 : Bool) : Option Bool :=
 br p3 (
  some p3) (
  bnd (m154_3 a0 (eqI a0 3)) fun v9 =>
  some v9)
noncomputable def m154_1 (a0 : Int) (p1 : Bool) : Option Bool :=
 br p1 (
  some p1) (
  bnd (m154_2 a0 (eqI a0 2)) fun v12 =>
  some v12)
noncomputable def m154_4 (a0 : Int) (p17 : Bool) : Option Bool :=
 br p17 (
  some p17) (
  some (eqI a0 6))
noncomputable def m154 (a0 : Int) : Option Int :=
 bnd (m154_1 a0 (eqI a0 1)) fun v15 =>
 br v15 (
  some 0) (
  bnd (m154_4 a0 (eqI a0 5)) fun v21 =>
  br v21 (
   some 2) (
   br (eqI a0 7) (
    some 1) (
    some (-1))))
noncomputable def m143_1 (rc : (List ReCell) → Int → Option (l6T × Int)) (r9 : Int) (x2 : ReCell) : Option Bool :=
 br (ltI r9 0) (
  some true) (
  br (eqI x2.kind 3) (
   bnd (m71 x2.n 1 65535) fun r14 =>
   br r14 (
    some false) (
    some true)) (
   some (!(eqI x2.n 0))))
noncomputable def m143_2b (rc : (List ReCell) → Int → Option (l6T × Int)) (a0 : (List ReCell)) (p : (Int × Int × List l6T)) : Option (Ctl (Int × Int × List l6T) ((Int × List l6T) ⊕ Unit)) :=
 sel3 p fun s27 s28 s29 =>
 br (ltI 0 s28) (
  bnd (rc a0 s27) fun p => sel2 p fun r33 r34 =>
  br (eqI r34 0) (
   some (.out (.inr ()))) (
   ck (s29.length + 1 ≤ 68719476736) <|
   some (.nxt (r34, wsub .i64 s28 1, s29 ++ [r33])))) (
  some (.out (.inl (s27, s29))))
noncomputable def m143r (rc : (List ReCell) → Int → Option (l6T × Int)) (a0 : (List ReCell)) (a1 : Int) : Option (l6T × Int) :=
 br (leI (↑a0.length : Int) a1) (
  some ((⟨0, 0, []⟩ : l6T), 0)) (
  bnd (idx a0 a1) fun x2 =>
  bnd (m154 x2.kind) fun r9 =>
  bnd (m143_1 rc r9 x2) fun v18 =>
  br v18 (
   some ((⟨0, 0, []⟩ : l6T), 0)) (
   bnd (loopP (m143_2b rc a0) (wadd .i64 a1 1, r9, [])) fun o => selS o (fun p => sel2 p fun v39 v40 =>
    some ((⟨x2.kind, x2.n, v40⟩ : l6T), v39)) (fun _ =>
    some ((⟨0, 0, []⟩ : l6T), 0))))
noncomputable def m143k : Nat → (List ReCell) → Int → Option (l6T × Int)
 | 0 => fun _ _ => none
 | k + 1 => m143r (m143k k)
noncomputable def m143 (a0 : (List ReCell)) (a1 : Int) : Option (l6T × Int) := limO (fun k => m143k k a0 a1)
noncomputable def m122_1 (a0 : (List ReCell)) (r5 : Int) : Option Bool :=
 br (ltI 0 r5) (
  some (eqI r5 (↑a0.length : Int))) (
  some false)
noncomputable def m122 (a0 : (List ReCell)) : Option (l6T × Bool) :=
 br (ltI 30 (↑a0.length : Int)) (
  some ((⟨0, 0, []⟩ : l6T), false)) (
  bnd (m143 a0 0) fun p => sel2 p fun r4 r5 =>
  bnd (m122_1 a0 r5) fun v9 =>
  some (r4, v9))
noncomputable def m82 (a0 : (List ReCell)) : Option Bool :=
 bnd (m122 a0) fun p => sel2 p fun r3 r4 =>
 some r4
noncomputable def m42_3 (x25 : Range) : Option Bool :=
 bnd (m33 x25.prefix_) fun r32 =>
 br r32 (
  bnd (m71 x25.lo x25.prefix_.len 32) fun r36 =>
  br r36 (
   bnd (m71 x25.hi x25.lo 32) fun r40 =>
   some (!r40)) (
   some true)) (
  some true)
noncomputable def m42_1b (a0 : Term) (p1 : Int) (s23 : Int) : Option (Ctl Int (Unit ⊕ Unit)) :=
 br (ltI s23 p1) (
  bnd (idx a0.ranges s23) fun x25 =>
  bnd (m42_3 x25) fun v43 =>
  br v43 (
   some (.out (.inr ()))) (
   some (.nxt (wadd .i64 s23 1)))) (
  some (.out (.inl ())))
noncomputable def m42_4b (a0 : Term) (p47 : Int) (s58 : Int) : Option (Ctl Int (Unit ⊕ Unit)) :=
 br (ltI s58 p47) (
  bnd (idx a0.acts s58) fun x60 =>
  bnd (m48 x60) fun r67 =>
  br r67 (
   some (.nxt (wadd .i64 s58 1))) (
   some (.out (.inr ())))) (
  some (.out (.inl ())))
noncomputable def m42_5 (a0 : Term) : Option Bool :=
 br (leI (↑a0.ranges.length : Int) 6) (
  br (leI (↑a0.acts.length : Int) 5) (
   br (eqI (↑a0.path.length : Int) 0) (
    bnd (m71 a0.comm (-1) 1000000) fun r76 =>
    br r76 (
     bnd (m71 a0.verdict 0 2) fun r80 =>
     some r80) (
     some false)) (
    bnd (m82 a0.path) fun r83 =>
    br r83 (
     bnd (m71 a0.comm (-1) 1000000) fun r87 =>
     br r87 (
      bnd (m71 a0.verdict 0 2) fun r91 =>
      some r91) (
      some false)) (
     some false))) (
   some false)) (
  some false)
noncomputable def m42 (a0 : Term) : Option Bool :=
 bnd (loopP (m42_1b a0 (↑a0.ranges.length : Int)) 0) fun o => selS o (fun _ =>
  bnd (loopP (m42_4b a0 (↑a0.acts.length : Int)) 0) fun o => selS o (fun _ =>
   bnd (m42_5 a0) fun v94 =>
   some v94) (fun _ =>
   some false)) (fun _ =>
  some false)
noncomputable def m34_1b (a0 : Attrs) (p1 : Int) (s12 : Int) : Option (Ctl Int (Unit ⊕ Unit)) :=
 br (ltI s12 p1) (
  bnd (idx a0.path s12) fun x14 =>
  bnd (m71 x14 1 65535) fun r21 =>
  br r21 (
   some (.nxt (wadd .i64 s12 1))) (
   some (.out (.inr ())))) (
  some (.out (.inl ())))
noncomputable def m34_4 (s46 : Int) (x48 : Int) (a0 : Attrs) : Option Bool :=
 bnd (m71 x48 0 1000000) fun r55 =>
 br r55 (
  br (ltI 0 s46) (
   bnd (idx a0.comms (wsub .i64 s46 1)) fun x58 =>
   some (leI x48 x58)) (
   some false)) (
  some true)
noncomputable def m34_2b (a0 : Attrs) (p25 : Int) (s46 : Int) : Option (Ctl Int (Unit ⊕ Unit)) :=
 br (ltI s46 p25) (
  bnd (idx a0.comms s46) fun x48 =>
  bnd (m34_4 s46 x48 a0) fun v65 =>
  br v65 (
   some (.out (.inr ()))) (
   some (.nxt (wadd .i64 s46 1)))) (
  some (.out (.inl ())))
noncomputable def m34_5 (a0 : Attrs) : Option Bool :=
 bnd (m71 a0.origin 0 2) fun r71 =>
 br r71 (
  br (leI (↑a0.path.length : Int) 10) (
   bnd (m72 a0.next) fun r76 =>
   br r76 (
    bnd (m71 a0.med 0 1000000) fun r80 =>
    br r80 (
     bnd (m71 a0.pref 0 1000000) fun r84 =>
     br r84 (
      some (leI (↑a0.comms.length : Int) 6)) (
      some false)) (
     some false)) (
    some false)) (
   some false)) (
  some false)
noncomputable def m34 (a0 : Attrs) : Option Bool :=
 bnd (loopP (m34_1b a0 (↑a0.path.length : Int)) 0) fun o => selS o (fun _ =>
  bnd (loopP (m34_2b a0 (↑a0.comms.length : Int)) 0) fun o => selS o (fun _ =>
   bnd (m34_5 a0) fun v88 =>
   some v88) (fun _ =>
   some false)) (fun _ =>
  some false)
noncomputable def m9_1 (a0 : Route) : Option Bool :=
 bnd (m33 a0.prefix_) fun r3 =>
 br r3 (
  bnd (m34 a0.attrs) fun r7 =>
  some r7) (
  some false)
noncomputable def m9 (a0 : Route) : Option Bool :=
 bnd (m9_1 a0) fun v10 =>
 some v10
noncomputable def m134 (a0 : Prefix) (a1 : Int) : Option Bool :=
 bnd (m73 a0) fun r3 =>
 ck (¬ r3 = 0) <|
 some (eqI (wsub .i64 a1 (wrem .i64 a1 r3)) a0.addr)
noncomputable def m108_1 (a0 : Prefix) (a1 : Prefix) : Option Bool :=
 br (leI a0.len a1.len) (
  bnd (m134 a0 a1.addr) fun r4 =>
  some r4) (
  some false)
noncomputable def m108 (a0 : Prefix) (a1 : Prefix) : Option Bool :=
 bnd (m108_1 a0 a1) fun v7 =>
 some v7
noncomputable def m135_1b (a0 : (List Int)) (p1 : Int) (s12 : Int) : Option (Ctl Int (Unit ⊕ Unit)) :=
 br (ltI s12 p1) (
  bnd (idx a0 s12) fun x14 =>
  bnd (m71 x14 1 65535) fun r21 =>
  br r21 (
   some (.nxt (wadd .i64 s12 1))) (
   some (.out (.inr ())))) (
  some (.out (.inl ())))
noncomputable def m135 (a0 : (List Int)) : Option Bool :=
 bnd (loopP (m135_1b a0 (↑a0.length : Int)) 0) fun o => selS o (fun _ =>
  some (leI (↑a0.length : Int) 10)) (fun _ =>
  some false)
noncomputable def m90_3 (a1 : Int) (s11 : Int) (a0 : (List Int)) : Option Bool :=
 br (ltI s11 (↑a0.length : Int)) (
  bnd (idx a0 s11) fun x13 =>
  some (ltI x13 a1)) (
  some false)
noncomputable def m90_1b (a1 : Int) (a0 : (List Int)) (s11 : Int) : Option (Ctl Int Int) :=
 bnd (m90_3 a1 s11 a0) fun v20 =>
 br v20 (
  some (.nxt (wadd .i64 s11 1))) (
  some (.out s11))
noncomputable def m90_4 (a1 : Int) (v24 : Int) (a0 : (List Int)) : Option Bool :=
 br (ltI v24 (↑a0.length : Int)) (
  bnd (idx a0 v24) fun x26 =>
  some (eqI x26 a1)) (
  some false)
noncomputable def m90 (a0 : (List Int)) (a1 : Int) : Option (List Int) :=
 bnd (loopP (m90_1b a1 a0) 0) fun v24 =>
 bnd (m90_4 a1 v24 a0) fun v33 =>
 br v33 (
  some a0) (
  ck (0 ≤ v24 ∧ v24 ≤ (↑a0.length : Int)) <|
  ck ((a0.take v24.toNat).length ≤ 68719476736) <|
  ck ((a0.take v24.toNat).length + 1 ≤ 68719476736) <|
  ck (0 ≤ v24 ∧ v24 ≤ (↑a0.length : Int)) <|
  ck (((a0.take v24.toNat) ++ [a1]).length + ((a0.drop v24.toNat).take (a0.length - v24.toNat)).length ≤ 68719476736) <|
  some (((a0.take v24.toNat) ++ [a1]) ++ ((a0.drop v24.toNat).take (a0.length - v24.toNat))))
noncomputable def m136_1 (rc : l6T → (List Int) → Int → Option (List Int)) (a0 : l6T) (p2 : Bool) : Option Bool :=
 br p2 (
  some p2) (
  some (eqI a0.kind_ 4))
noncomputable def m136_3 (rc : l6T → (List Int) → Int → Option (List Int)) (a1 : (List Int)) (a2 : Int) (a0 : l6T) : Option Bool :=
 br (ltI a2 (↑a1.length : Int)) (
  br (eqI a0.kind_ 4) (
   some true) (
   bnd (idx a1 a2) fun x10 =>
   some (eqI x10 a0.n_))) (
  some false)
noncomputable def m136_4b (rc : l6T → (List Int) → Int → Option (List Int)) (p36 : Int) (r35 : (List Int)) (p : (Int × List Int)) : Option (Ctl (Int × List Int) (List Int)) :=
 sel2 p fun s46 s47 =>
 br (ltI s46 p36) (
  bnd (idx r35 s46) fun x49 =>
  bnd (m90 s47 x49) fun r56 =>
  some (.nxt (wadd .i64 s46 1, r56))) (
  some (.out s47))
noncomputable def m136_7b (rc : l6T → (List Int) → Int → Option (List Int)) (p124 : Int) (r123 : (List Int)) (p : (Int × List Int)) : Option (Ctl (Int × List Int) (List Int)) :=
 sel2 p fun s134 s135 =>
 br (ltI s134 p124) (
  bnd (idx r123 s134) fun x137 =>
  bnd (m90 s135 x137) fun r144 =>
  some (.nxt (wadd .i64 s134 1, r144))) (
  some (.out s135))
noncomputable def m136_5b (rc : l6T → (List Int) → Int → Option (List Int)) (a1 : (List Int)) (p69 : Int) (a0 : l6T) (r68 : (List Int)) (p : (Int × List Int)) : Option (Ctl (Int × List Int) (List Int)) :=
 sel2 p fun s108 s109 =>
 br (ltI s108 p69) (
  bnd (idx r68 s108) fun x111 =>
  bnd (idx a0.kids_ 1) fun x116 =>
  bnd (rc x116 a1 x111) fun r123 =>
  bnd (loopP (m136_7b rc (↑r123.length : Int) r123) (0, s109)) fun v147 =>
  some (.nxt (wadd .i64 s108 1, v147))) (
  some (.out s109))
noncomputable def m136_14b (rc : l6T → (List Int) → Int → Option (List Int)) (p296 : Int) (r295 : (List Int)) (p : (Int × List Int)) : Option (Ctl (Int × List Int) (List Int)) :=
 sel2 p fun s306 s307 =>
 br (ltI s306 p296) (
  bnd (idx r295 s306) fun x309 =>
  bnd (m90 s307 x309) fun r316 =>
  some (.nxt (wadd .i64 s306 1, r316))) (
  some (.out s307))
noncomputable def m136_12b (rc : l6T → (List Int) → Int → Option (List Int)) (a1 : (List Int)) (p241 : Int) (a0 : l6T) (s238 : List Int) (p : (Int × List Int)) : Option (Ctl (Int × List Int) (List Int)) :=
 sel2 p fun s280 s281 =>
 br (ltI s280 p241) (
  bnd (idx s238 s280) fun x283 =>
  bnd (idx a0.kids_ 0) fun x288 =>
  bnd (rc x288 a1 x283) fun r295 =>
  bnd (loopP (m136_14b rc (↑r295.length : Int) r295) (0, s281)) fun v319 =>
  some (.nxt (wadd .i64 s280 1, v319))) (
  some (.out s281))
noncomputable def m136_8b (rc : l6T → (List Int) → Int → Option (List Int)) (a1 : (List Int)) (a0 : l6T) (s238 : List Int) : Option (Ctl (List Int) (List Int)) :=
 ck (0 + s238.length ≤ 68719476736) <|
 bnd (loopP (m136_12b rc a1 (↑s238.length : Int) a0 s238) (0, s238)) fun v322 =>
 br (eqI (↑v322.length : Int) (↑s238.length : Int)) (
  some (.out v322)) (
  some (.nxt v322))
noncomputable def m136_2 (rc : l6T → (List Int) → Int → Option (List Int)) (a1 : (List Int)) (a2 : Int) (a0 : l6T) (v6 : Bool) : Option (Unit ⊕ List Int) :=
 br v6 (
  bnd (m136_3 rc a1 a2 a0) fun v17 =>
  br v17 (
   some (.inr [wadd .i64 a2 1])) (
   some (.inl ()))) (
  br (eqI a0.kind_ 6) (
   bnd (idx a0.kids_ 0) fun x20 =>
   bnd (rc x20 a1 a2) fun r27 =>
   bnd (idx a0.kids_ 1) fun x28 =>
   bnd (rc x28 a1 a2) fun r35 =>
   bnd (loopP (m136_4b rc (↑r35.length : Int) r35) (0, r27)) fun v59 =>
   some (.inr v59)) (
   br (eqI a0.kind_ 5) (
    bnd (idx a0.kids_ 0) fun x61 =>
    bnd (rc x61 a1 a2) fun r68 =>
    bnd (loopP (m136_5b rc a1 (↑r68.length : Int) a0 r68) (0, [])) fun v150 =>
    some (.inr v150)) (
    br (eqI a0.kind_ 7) (
     bnd (loopP (m136_8b rc a1 a0) [a2]) fun v326 =>
     some (.inr v326)) (
     some (.inl ())))))
noncomputable def m136r (rc : l6T → (List Int) → Int → Option (List Int)) (a0 : l6T) (a1 : (List Int)) (a2 : Int) : Option (List Int) :=
 br (eqI a0.kind_ 2) (
  some [a2]) (
  bnd (m136_1 rc a0 (eqI a0.kind_ 3)) fun v6 =>
  bnd (m136_2 rc a1 a2 a0 v6) fun o => selS o (fun _ =>
   some []) (fun v329 =>
   some v329))
noncomputable def m136k : Nat → l6T → (List Int) → Int → Option (List Int)
 | 0 => fun _ _ _ => none
 | k + 1 => m136r (m136k k)
noncomputable def m136 (a0 : l6T) (a1 : (List Int)) (a2 : Int) : Option (List Int) := limO (fun k => m136k k a0 a1 a2)
noncomputable def m110_1b (a1 : Int) (a0 : (List Int)) (p1 : Int) (s9 : Int) : Option (Ctl Int (Unit ⊕ Unit)) :=
 br (ltI s9 p1) (
  bnd (idx a0 s9) fun x11 =>
  br (eqI x11 a1) (
   some (.out (.inr ()))) (
   some (.nxt (wadd .i64 s9 1)))) (
  some (.out (.inl ())))
noncomputable def m110 (a0 : (List Int)) (a1 : Int) : Option Bool :=
 bnd (loopP (m110_1b a1 a0 (↑a0.length : Int)) 0) fun o => selS o (fun _ =>
  some false) (fun _ =>
  some true)
noncomputable def m109_1 (a1 : (List Int)) (r4 : Bool) : Option Bool :=
 br r4 (
  bnd (m135 a1) fun r8 =>
  some (!r8)) (
  some true)
noncomputable def m109 (a0 : (List ReCell)) (a1 : (List Int)) : Option (Bool × Bool) :=
 bnd (m122 a0) fun p => sel2 p fun r3 r4 =>
 bnd (m109_1 a1 r4) fun v11 =>
 br v11 (
  some (false, false)) (
  bnd (m136 r3 a1 0) fun r15 =>
  bnd (m110 r15 (↑a1.length : Int)) fun r18 =>
  some (r18, true))
noncomputable def m62_4 (s20 : Bool) (a1 : Route) (x23 : Range) : Option Bool :=
 br s20 (
  some true) (
  bnd (m108 x23.prefix_ a1.prefix_) fun r31 =>
  br r31 (
   bnd (m71 a1.prefix_.len x23.lo x23.hi) fun r35 =>
   some r35) (
   some false))
noncomputable def m62_2b (a0 : Term) (p3 : Int) (a1 : Route) (p : (Bool × Int)) : Option (Ctl (Bool × Int) Bool) :=
 sel2 p fun s20 s21 =>
 br (ltI s21 p3) (
  bnd (idx a0.ranges s21) fun x23 =>
  bnd (m62_4 s20 a1 x23) fun v38 =>
  some (.nxt (v38, wadd .i64 s21 1))) (
  some (.out s20))
noncomputable def m62_1 (p1 : Bool) (a0 : Term) (a1 : Route) : Option (Unit ⊕ Unit) :=
 br p1 (
  bnd (loopP (m62_2b a0 (↑a0.ranges.length : Int) a1) (false, 0)) fun v41 =>
  br v41 (
   some (.inl ())) (
   some (.inr ()))) (
  some (.inl ()))
noncomputable def m62_5 (p45 : Bool) (a0 : Term) (a1 : Route) : Option (Unit ⊕ Unit) :=
 br p45 (
  bnd (m109 a0.path a1.attrs.path) fun p => sel2 p fun r49 r50 =>
  br r49 (
   some (.inl ())) (
   some (.inr ()))) (
  some (.inl ()))
noncomputable def m62_6 (a0 : Term) (a1 : Route) : Option Bool :=
 br (eqI a0.comm (-1)) (
  some true) (
  bnd (m110 a1.attrs.comms a0.comm) fun r57 =>
  some r57)
noncomputable def m62 (a0 : Term) (a1 : Route) : Option Bool :=
 bnd (m62_1 (ltI 0 (↑a0.ranges.length : Int)) a0 a1) fun o => selS o (fun _ =>
  bnd (m62_5 (ltI 0 (↑a0.path.length : Int)) a0 a1) fun o => selS o (fun _ =>
   bnd (m62_6 a0 a1) fun v60 =>
   some v60) (fun _ =>
   some false)) (fun _ =>
  some false)
noncomputable def m28_1 (a0 : Term) (a1 : Route) : Option Bool :=
 bnd (m42 a0) fun r3 =>
 br r3 (
  bnd (m9 a1) fun r7 =>
  some (!r7)) (
  some true)
noncomputable def m28 (a0 : Term) (a1 : Route) : Option (Bool × Bool) :=
 bnd (m28_1 a0 a1) fun v10 =>
 br v10 (
  some (false, false)) (
  bnd (m62 a0 a1) fun r14 =>
  some (r14, true))
noncomputable def m75_1 (a0 : Int) (a1 : Int) (a2 : Int) : Option Bool :=
 br (leI a1 a0) (
  some (leI a0 a2)) (
  some false)
noncomputable def m75 (a0 : Int) (a1 : Int) (a2 : Int) : Option Bool :=
 bnd (m75_1 a0 a1 a2) fun v4 =>
 some v4
noncomputable def m144_3 (a0 : Int) (p5 : Bool) : Option Bool :=
 br p5 (
  some p5) (
  some (eqI a0 4))
noncomputable def m144_2 (a0 : Int) (p3 : Bool) : Option Bool :=
 br p3 (
  some p3) (
  bnd (m144_3 a0 (eqI a0 3)) fun v9 =>
  some v9)
noncomputable def m144_1 (a0 : Int) (p1 : Bool) : Option Bool :=
 br p1 (
  some p1) (
  bnd (m144_2 a0 (eqI a0 2)) fun v12 =>
  some v12)
noncomputable def m144_4 (a0 : Int) (p18 : Bool) : Option Bool :=
 br p18 (
  some p18) (
  some (eqI a0 6))
noncomputable def m144 (a0 : Int) : Option Int :=
 bnd (m144_1 a0 (eqI a0 1)) fun v15 =>
 br v15 (
  some 0) (
  br (eqI a0 7) (
   some 1) (
   bnd (m144_4 a0 (eqI a0 5)) fun v22 =>
   br v22 (
    some 2) (
    some (-1))))
noncomputable def m123_1b (a0 : (List ReCell)) (a1 : Int) (p : (Int × Int)) : Option (Ctl (Int × Int) (Unit ⊕ Int)) :=
 sel2 p fun s12 s13 =>
 br (ltI s13 (↑a0.length : Int)) (
  bnd (idx a0 s13) fun x15 =>
  bnd (m144 x15.kind) fun r22 =>
  br (ltI r22 0) (
   some (.out (.inr (-1)))) (
   br (eqI (wadd .i64 s12 (wsub .i64 r22 1)) 0) (
    some (.out (.inr (wsub .i64 (wadd .i64 s13 1) a1)))) (
    some (.nxt (wadd .i64 s12 (wsub .i64 r22 1), wadd .i64 s13 1))))) (
  some (.out (.inl ())))
noncomputable def m123 (a0 : (List ReCell)) (a1 : Int) : Option Int :=
 bnd (loopP (m123_1b a0 a1) (1, a1)) fun o => selS o (fun _ =>
  some (-1)) (fun v27 =>
  some v27)
noncomputable def m145_1b (a0 : (List ReCell)) (p1 : Int) (a1 : (ReCell → Option Bool)) (s12 : Int) : Option (Ctl Int (Unit ⊕ Int)) :=
 br (ltI s12 p1) (
  bnd (idx a0 s12) fun x14 =>
  bnd (a1 x14) fun r19 =>
  br r19 (
   some (.out (.inr s12))) (
   some (.nxt (wadd .i64 s12 1)))) (
  some (.out (.inl ())))
noncomputable def m145 (a0 : (List ReCell)) (a1 : (ReCell → Option Bool)) : Option Int :=
 bnd (loopP (m145_1b a0 (↑a0.length : Int) a1) 0) fun o => selS o (fun _ =>
  some (-1)) (fun v25 =>
  some v25)
noncomputable def m124 (a0 : (List ReCell)) (a1 : (ReCell → Option Bool)) : Option Bool :=
 bnd (m145 a0 a1) fun r3 =>
 some (leI 0 r3)
noncomputable def m91 (a0 : Int) : Option Bool :=
 bnd (m75 a0 1 65535) fun r3 =>
 some r3
noncomputable def m125_1 (a0 : ReCell) : Option Bool :=
 br (eqI a0.kind 3) (
  bnd (m91 a0.n) fun r4 =>
  br r4 (
   some false) (
   some true)) (
  some (!(eqI a0.n 0)))
noncomputable def m125 (a0 : ReCell) : Option Bool :=
 bnd (m125_1 a0) fun v8 =>
 some v8
noncomputable def m84_1 (a0 : (List ReCell)) : Option Bool :=
 bnd (m75 (↑a0.length : Int) 1 30) fun r3 =>
 br r3 (
  bnd (m123 a0 0) fun r7 =>
  some (!(eqI r7 (↑a0.length : Int)))) (
  some true)
noncomputable def m84 (a0 : (List ReCell)) : Option Bool :=
 bnd (m84_1 a0) fun v10 =>
 br v10 (
  some false) (
  bnd (m124 a0 (fun y0 => m125 y0)) fun r14 =>
  some (!r14))
noncomputable def m79 (a0 : Int) : Option Bool :=
 bnd (m75 a0 0 1000000) fun r3 =>
 some r3
noncomputable def m126_1b (a0 : (List Range)) (p1 : Int) (a1 : (Range → Option Bool)) (s12 : Int) : Option (Ctl Int (Unit ⊕ Int)) :=
 br (ltI s12 p1) (
  bnd (idx a0 s12) fun x14 =>
  bnd (a1 x14) fun r19 =>
  br r19 (
   some (.out (.inr s12))) (
   some (.nxt (wadd .i64 s12 1)))) (
  some (.out (.inl ())))
noncomputable def m126 (a0 : (List Range)) (a1 : (Range → Option Bool)) : Option Int :=
 bnd (loopP (m126_1b a0 (↑a0.length : Int) a1) 0) fun o => selS o (fun _ =>
  some (-1)) (fun v25 =>
  some v25)
noncomputable def m85 (a0 : (List Range)) (a1 : (Range → Option Bool)) : Option Bool :=
 bnd (m126 a0 a1) fun r3 =>
 some (leI 0 r3)
noncomputable def m76 (a0 : Int) : Option Bool :=
 bnd (m75 a0 0 4294967295) fun r3 =>
 some r3
noncomputable def m77 (a0 : Int) : Option Int :=
 ck (¬ (wsub .i64 32 a0) < 0) <|
 some (wshl .i64 1 (wsub .i64 32 a0))
noncomputable def m37_1 (a0 : Prefix) : Option Bool :=
 bnd (m75 a0.len 0 32) fun r3 =>
 br r3 (
  bnd (m76 a0.addr) fun r7 =>
  br r7 (
   bnd (m77 a0.len) fun r11 =>
   ck (¬ r11 = 0) <|
   some (eqI (wrem .i64 a0.addr r11) 0)) (
   some false)) (
  some false)
noncomputable def m37 (a0 : Prefix) : Option Bool :=
 bnd (m37_1 a0) fun v15 =>
 some v15
noncomputable def m86_1 (a0 : Range) : Option Bool :=
 bnd (m37 a0.prefix_) fun r3 =>
 br r3 (
  br (ltI a0.lo a0.prefix_.len) (
   some true) (
   br (ltI a0.hi a0.lo) (
    some true) (
    some (ltI 32 a0.hi)))) (
  some true)
noncomputable def m86 (a0 : Range) : Option Bool :=
 bnd (m86_1 a0) fun v9 =>
 some v9
noncomputable def m127_1b (a0 : (List Acn)) (p1 : Int) (a1 : (Acn → Option Bool)) (s12 : Int) : Option (Ctl Int (Unit ⊕ Int)) :=
 br (ltI s12 p1) (
  bnd (idx a0 s12) fun x14 =>
  bnd (a1 x14) fun r19 =>
  br r19 (
   some (.out (.inr s12))) (
   some (.nxt (wadd .i64 s12 1)))) (
  some (.out (.inl ())))
noncomputable def m127 (a0 : (List Acn)) (a1 : (Acn → Option Bool)) : Option Int :=
 bnd (loopP (m127_1b a0 (↑a0.length : Int) a1) 0) fun o => selS o (fun _ =>
  some (-1)) (fun v25 =>
  some v25)
noncomputable def m87 (a0 : (List Acn)) (a1 : (Acn → Option Bool)) : Option Bool :=
 bnd (m127 a0 a1) fun r3 =>
 some (leI 0 r3)
noncomputable def m50_3 (a0 : Acn) (p5 : Bool) : Option Bool :=
 br p5 (
  some p5) (
  some (eqI a0.kind 4))
noncomputable def m50_2 (a0 : Acn) (p3 : Bool) : Option Bool :=
 br p3 (
  some p3) (
  bnd (m50_3 a0 (eqI a0.kind 3)) fun v9 =>
  some v9)
noncomputable def m50_1 (a0 : Acn) (p1 : Bool) : Option Bool :=
 br p1 (
  some p1) (
  bnd (m50_2 a0 (eqI a0.kind 2)) fun v12 =>
  some v12)
noncomputable def m50 (a0 : Acn) : Option Bool :=
 bnd (m50_1 a0 (eqI a0.kind 1)) fun v15 =>
 br v15 (
  bnd (m79 a0.n) fun r19 =>
  some r19) (
  br (eqI a0.kind 5) (
   bnd (m91 a0.n) fun r23 =>
   some r23) (
   some false))
noncomputable def m88 (a0 : Acn) : Option Bool :=
 bnd (m50 a0) fun r3 =>
 some (!r3)
noncomputable def m46_1 (a0 : Term) : Option Bool :=
 br (ltI 6 (↑a0.ranges.length : Int)) (
  some true) (
  br (ltI 0 (↑a0.path.length : Int)) (
   bnd (m84 a0.path) fun r5 =>
   br r5 (
    br (eqI a0.comm (-1)) (
     br (ltI 5 (↑a0.acts.length : Int)) (
      some true) (
      bnd (m75 a0.verdict 0 2) fun r11 =>
      some (!r11))) (
     bnd (m79 a0.comm) fun r14 =>
     br r14 (
      br (ltI 5 (↑a0.acts.length : Int)) (
       some true) (
       bnd (m75 a0.verdict 0 2) fun r19 =>
       some (!r19))) (
      some true))) (
    some true)) (
   br (eqI a0.comm (-1)) (
    br (ltI 5 (↑a0.acts.length : Int)) (
     some true) (
     bnd (m75 a0.verdict 0 2) fun r24 =>
     some (!r24))) (
    bnd (m79 a0.comm) fun r27 =>
    br r27 (
     br (ltI 5 (↑a0.acts.length : Int)) (
      some true) (
      bnd (m75 a0.verdict 0 2) fun r32 =>
      some (!r32))) (
     some true))))
noncomputable def m46_2 (a0 : Term) : Option Bool :=
 bnd (m85 a0.ranges (fun y0 => m86 y0)) fun r39 =>
 br r39 (
  some false) (
  bnd (m87 a0.acts (fun y0 => m88 y0)) fun r43 =>
  some (!r43))
noncomputable def m46 (a0 : Term) : Option Bool :=
 bnd (m46_1 a0) fun v35 =>
 br v35 (
  some false) (
  bnd (m46_2 a0) fun v46 =>
  some v46)
noncomputable def m133_1b (a0 : (List Int)) (p1 : Int) (a1 : (Int → Option Bool)) (s12 : Int) : Option (Ctl Int (Unit ⊕ Int)) :=
 br (ltI s12 p1) (
  bnd (idx a0 s12) fun x14 =>
  bnd (a1 x14) fun r19 =>
  br r19 (
   some (.out (.inr s12))) (
   some (.nxt (wadd .i64 s12 1)))) (
  some (.out (.inl ())))
noncomputable def m133 (a0 : (List Int)) (a1 : (Int → Option Bool)) : Option Int :=
 bnd (loopP (m133_1b a0 (↑a0.length : Int) a1) 0) fun o => selS o (fun _ =>
  some (-1)) (fun v25 =>
  some v25)
noncomputable def m120 (a0 : (List Int)) (a1 : (Int → Option Bool)) : Option Bool :=
 bnd (m133 a0 a1) fun r3 =>
 some (leI 0 r3)
noncomputable def m121 (a0 : Int) : Option Bool :=
 bnd (m91 a0) fun r3 =>
 some (!r3)
noncomputable def m78_1 (a0 : (List Int)) : Option Bool :=
 br (leI (↑a0.length : Int) 10) (
  bnd (m120 a0 (fun y0 => m121 y0)) fun r4 =>
  some (!r4)) (
  some false)
noncomputable def m78 (a0 : (List Int)) : Option Bool :=
 bnd (m78_1 a0) fun v7 =>
 some v7
noncomputable def m80_3 (a0 : (List Int)) (s22 : Int) (x24 : Int) : Option Bool :=
 bnd (m79 x24) fun r31 =>
 br r31 (
  br (ltI 0 s22) (
   bnd (idx a0 (wsub .i64 s22 1)) fun x34 =>
   some (leI x24 x34)) (
   some false)) (
  some true)
noncomputable def m80_1b (a0 : (List Int)) (p1 : Int) (s22 : Int) : Option (Ctl Int (Unit ⊕ Unit)) :=
 br (ltI s22 p1) (
  bnd (idx a0 s22) fun x24 =>
  bnd (m80_3 a0 s22 x24) fun v41 =>
  br v41 (
   some (.out (.inr ()))) (
   some (.nxt (wadd .i64 s22 1)))) (
  some (.out (.inl ())))
noncomputable def m80 (a0 : (List Int)) : Option Bool :=
 bnd (loopP (m80_1b a0 (↑a0.length : Int)) 0) fun o => selS o (fun _ =>
  some (leI (↑a0.length : Int) 6)) (fun _ =>
  some false)
noncomputable def m38_1 (a0 : Attrs) : Option Bool :=
 bnd (m75 a0.origin 0 2) fun r3 =>
 br r3 (
  bnd (m78 a0.path) fun r7 =>
  br r7 (
   bnd (m76 a0.next) fun r11 =>
   br r11 (
    bnd (m79 a0.med) fun r15 =>
    br r15 (
     bnd (m79 a0.pref) fun r19 =>
     br r19 (
      bnd (m80 a0.comms) fun r23 =>
      some r23) (
      some false)) (
     some false)) (
    some false)) (
   some false)) (
  some false)
noncomputable def m38 (a0 : Attrs) : Option Bool :=
 bnd (m38_1 a0) fun v26 =>
 some v26
noncomputable def m11_1 (a0 : Route) : Option Bool :=
 bnd (m37 a0.prefix_) fun r3 =>
 br r3 (
  bnd (m38 a0.attrs) fun r7 =>
  some r7) (
  some false)
noncomputable def m11 (a0 : Route) : Option Bool :=
 bnd (m11_1 a0) fun v10 =>
 some v10
noncomputable def m142_1b (a0 : (List Int)) (a1 : Int) (p1 : Int) (s9 : Int) : Option (Ctl Int (Unit ⊕ Int)) :=
 br (ltI s9 p1) (
  bnd (idx a0 s9) fun x11 =>
  br (eqI a1 x11) (
   some (.out (.inr s9))) (
   some (.nxt (wadd .i64 s9 1)))) (
  some (.out (.inl ())))
noncomputable def m142 (a0 : (List Int)) (a1 : Int) : Option Int :=
 bnd (loopP (m142_1b a0 a1 (↑a0.length : Int)) 0) fun o => selS o (fun _ =>
  some (-1)) (fun v19 =>
  some v19)
noncomputable def m116 (a0 : (List Int)) (a1 : Int) : Option Bool :=
 bnd (m142 a0 a1) fun r3 =>
 some (leI 0 r3)
noncomputable def m138_1b (rc : (List ReCell) → Option (pattern × (List ReCell))) (r9 : Int) (p : (List ReCell × Int × List pattern)) : Option (Ctl (List ReCell × Int × List pattern) (List ReCell × List pattern)) :=
 sel3 p fun s16 s17 s18 =>
 br (ltI s17 r9) (
  bnd (rc s16) fun p => sel2 p fun r22 r23 =>
  ck (s18.length + 1 ≤ 68719476736) <|
  some (.nxt (r23, wadd .i64 s17 1, s18 ++ [r22]))) (
  some (.out (s16, s18)))
noncomputable def m138r (rc : (List ReCell) → Option (pattern × (List ReCell))) (a0 : (List ReCell)) : Option (pattern × (List ReCell)) :=
 bnd (idx a0 0) fun x1 =>
 ck (0 ≤ 1 ∧ 1 ≤ (↑a0.length : Int)) <|
 bnd (m144 x1.kind) fun r9 =>
 bnd (loopP (m138_1b rc r9) (a0.drop 1, 0, [])) fun p => sel2 p fun v27 v28 =>
 some ((⟨x1, v28⟩ : pattern), v27)
noncomputable def m138k : Nat → (List ReCell) → Option (pattern × (List ReCell))
 | 0 => fun _ => none
 | k + 1 => m138r (m138k k)
noncomputable def m138 (a0 : (List ReCell)) : Option (pattern × (List ReCell)) := limO (fun k => m138k k a0)
noncomputable def m150 (a0 : Int) (a1 : (List pattern)) : Option pattern :=
 some (⟨(⟨a0, 0⟩ : ReCell), a1⟩ : pattern)
noncomputable def m141_1 (rc : pattern → Option Bool) (a0 : pattern) (p1 : Bool) : Option Bool :=
 br p1 (
  some p1) (
  some (eqI a0.cell.kind 7))
noncomputable def m141_2 (rc : pattern → Option Bool) (a0 : pattern) : Option Bool :=
 bnd (idx a0.parts 0) fun x8 =>
 bnd (rc x8) fun r15 =>
 br r15 (
  bnd (idx a0.parts 1) fun x17 =>
  bnd (rc x17) fun r24 =>
  some r24) (
  some false)
noncomputable def m141_3 (rc : pattern → Option Bool) (a0 : pattern) : Option Bool :=
 bnd (idx a0.parts 0) fun x29 =>
 bnd (rc x29) fun r36 =>
 br r36 (
  some true) (
  bnd (idx a0.parts 1) fun x38 =>
  bnd (rc x38) fun r45 =>
  some r45)
noncomputable def m141r (rc : pattern → Option Bool) (a0 : pattern) : Option Bool :=
 bnd (m141_1 rc a0 (eqI a0.cell.kind 2)) fun v5 =>
 br v5 (
  some true) (
  br (eqI a0.cell.kind 5) (
   bnd (m141_2 rc a0) fun v27 =>
   some v27) (
   br (eqI a0.cell.kind 6) (
    bnd (m141_3 rc a0) fun v48 =>
    some v48) (
    some false)))
noncomputable def m141k : Nat → pattern → Option Bool
 | 0 => fun _ => none
 | k + 1 => m141r (m141k k)
noncomputable def m141 (a0 : pattern) : Option Bool := limO (fun k => m141k k a0)
noncomputable def m139_1 (rc : pattern → Int → Option pattern) (a0 : pattern) (a1 : Int) (p5 : Bool) : Option (Unit ⊕ pattern) :=
 br p5 (
  br (eqI a0.cell.n a1) (
   bnd (m150 2 []) fun r10 =>
   some (.inr r10)) (
   some (.inl ()))) (
  br (eqI a0.cell.kind 6) (
   bnd (idx a0.parts 0) fun x12 =>
   bnd (rc x12 a1) fun r19 =>
   bnd (idx a0.parts 1) fun x20 =>
   bnd (rc x20 a1) fun r27 =>
   bnd (m150 6 [r19, r27]) fun r30 =>
   some (.inr r30)) (
   br (eqI a0.cell.kind 7) (
    bnd (idx a0.parts 0) fun x32 =>
    bnd (rc x32 a1) fun r39 =>
    bnd (m150 5 [r39, a0]) fun r42 =>
    some (.inr r42)) (
    br (eqI a0.cell.kind 5) (
     bnd (idx a0.parts 0) fun x44 =>
     bnd (rc x44 a1) fun r51 =>
     bnd (idx a0.parts 1) fun x52 =>
     bnd (m150 5 [r51, x52]) fun r59 =>
     bnd (m141 x44) fun r62 =>
     br r62 (
      bnd (rc x52 a1) fun r66 =>
      bnd (m150 6 [r59, r66]) fun r69 =>
      some (.inr r69)) (
      some (.inr r59))) (
     some (.inl ())))))
noncomputable def m139r (rc : pattern → Int → Option pattern) (a0 : pattern) (a1 : Int) : Option pattern :=
 br (eqI a0.cell.kind 4) (
  bnd (m150 2 []) fun r4 =>
  some r4) (
  bnd (m139_1 rc a0 a1 (eqI a0.cell.kind 3)) fun o => selS o (fun _ =>
   bnd (m150 1 []) fun r74 =>
   some r74) (fun v75 =>
   some v75))
noncomputable def m139k : Nat → pattern → Int → Option pattern
 | 0 => fun _ _ => none
 | k + 1 => m139r (m139k k)
noncomputable def m139 (a0 : pattern) (a1 : Int) : Option pattern := limO (fun k => m139k k a0 a1)
noncomputable def m151 (a0 : Int) (a1 : Int) (a2 : pattern) : Option Bool :=
 bnd (idx a2.parts a0) fun x1 =>
 some (eqI x1.cell.kind a1)
noncomputable def m153_1b (rc : pattern → Option (List ReCell)) (a0 : pattern) (p1 : Int) (p : (Int × List ReCell)) : Option (Ctl (Int × List ReCell) (List ReCell)) :=
 sel2 p fun s13 s14 =>
 br (ltI s13 p1) (
  bnd (idx a0.parts s13) fun x16 =>
  bnd (rc x16) fun r23 =>
  ck (s14.length + r23.length ≤ 68719476736) <|
  some (.nxt (wadd .i64 s13 1, s14 ++ r23))) (
  some (.out s14))
noncomputable def m153r (rc : pattern → Option (List ReCell)) (a0 : pattern) : Option (List ReCell) :=
 bnd (loopP (m153_1b rc a0 (↑a0.parts.length : Int)) (0, [a0.cell])) fun v27 =>
 some v27
noncomputable def m153k : Nat → pattern → Option (List ReCell)
 | 0 => fun _ => none
 | k + 1 => m153r (m153k k)
noncomputable def m153 (a0 : pattern) : Option (List ReCell) := limO (fun k => m153k k a0)
noncomputable def m152_1b (a0 : (List ReCell)) (a1 : (List ReCell)) (p2 : Int) (s15 : Int) : Option (Ctl Int (Unit ⊕ Unit)) :=
 br (ltI s15 p2) (
  bnd (idx a0 s15) fun x17 =>
  bnd (idx a1 s15) fun x22 =>
  br (eqI x17.kind x22.kind && eqI x17.n x22.n) (
   some (.nxt (wadd .i64 s15 1))) (
   some (.out (.inr ())))) (
  some (.out (.inl ())))
noncomputable def m152 (a0 : (List ReCell)) (a1 : (List ReCell)) : Option Bool :=
 br (eqI (↑a0.length : Int) (↑a1.length : Int)) (
  bnd (loopP (m152_1b a0 a1 (↑a0.length : Int)) 0) fun o => selS o (fun _ =>
   some true) (fun _ =>
   some false)) (
  some false)
noncomputable def m140_1b (rc : pattern → Option pattern) (a0 : pattern) (p1 : Int) (p : (Int × List pattern)) : Option (Ctl (Int × List pattern) (List pattern)) :=
 sel2 p fun s11 s12 =>
 br (ltI s11 p1) (
  bnd (idx a0.parts s11) fun x14 =>
  bnd (rc x14) fun r21 =>
  ck (s12.length + 1 ≤ 68719476736) <|
  some (.nxt (wadd .i64 s11 1, s12 ++ [r21]))) (
  some (.out s12))
noncomputable def m140_3 (rc : pattern → Option pattern) (p27 : pattern) : Option Bool :=
 bnd (m151 0 1 p27) fun r31 =>
 br r31 (
  some true) (
  bnd (m151 1 1 p27) fun r35 =>
  some r35)
noncomputable def m140_5 (rc : pattern → Option pattern) (p27 : pattern) : Option Bool :=
 bnd (m151 1 1 p27) fun r74 =>
 br r74 (
  some true) (
  bnd (idx p27.parts 0) fun x76 =>
  bnd (m153 x76) fun r83 =>
  bnd (idx p27.parts 1) fun x84 =>
  bnd (m153 x84) fun r91 =>
  bnd (m152 r83 r91) fun r94 =>
  some r94)
noncomputable def m140_7 (rc : pattern → Option pattern) (p27 : pattern) : Option Bool :=
 bnd (m151 0 1 p27) fun r108 =>
 br r108 (
  some true) (
  bnd (m151 0 2 p27) fun r112 =>
  some r112)
noncomputable def m140_6 (rc : pattern → Option pattern) (p104 : Bool) (p27 : pattern) : Option (Unit ⊕ pattern) :=
 br p104 (
  bnd (m140_7 rc p27) fun v115 =>
  br v115 (
   bnd (m150 2 []) fun r119 =>
   some (.inr r119)) (
   bnd (m151 0 7 p27) fun r122 =>
   br r122 (
    bnd (idx p27.parts 0) fun x124 =>
    some (.inr x124)) (
    some (.inl ())))) (
  some (.inl ()))
noncomputable def m140_4 (rc : pattern → Option pattern) (a0 : pattern) (p61 : Bool) (p27 : pattern) : Option (Unit ⊕ pattern) :=
 br p61 (
  bnd (m151 0 1 p27) fun r65 =>
  br r65 (
   bnd (idx p27.parts 1) fun x67 =>
   some (.inr x67)) (
   bnd (m140_5 rc p27) fun v97 =>
   br v97 (
    bnd (idx p27.parts 0) fun x99 =>
    some (.inr x99)) (
    some (.inl ())))) (
  bnd (m140_6 rc (eqI a0.cell.kind 7) p27) fun o => selS o (fun _ =>
   some (.inl ())) (fun v131 =>
   some (.inr v131)))
noncomputable def m140_2 (rc : pattern → Option pattern) (a0 : pattern) (p26 : Bool) (p27 : pattern) : Option (Unit ⊕ pattern) :=
 br p26 (
  bnd (m140_3 rc p27) fun v38 =>
  br v38 (
   bnd (m150 1 []) fun r42 =>
   some (.inr r42)) (
   bnd (m151 0 2 p27) fun r45 =>
   br r45 (
    bnd (idx p27.parts 1) fun x47 =>
    some (.inr x47)) (
    bnd (m151 1 2 p27) fun r54 =>
    br r54 (
     bnd (idx p27.parts 0) fun x56 =>
     some (.inr x56)) (
     some (.inl ()))))) (
  bnd (m140_4 rc a0 (eqI a0.cell.kind 6) p27) fun o => selS o (fun _ =>
   some (.inl ())) (fun v134 =>
   some (.inr v134)))
noncomputable def m140r (rc : pattern → Option pattern) (a0 : pattern) : Option pattern :=
 bnd (loopP (m140_1b rc a0 (↑a0.parts.length : Int)) (0, [])) fun v25 =>
 bnd (m140_2 rc a0 (eqI a0.cell.kind 5) (⟨a0.cell, v25⟩ : pattern)) fun o => selS o (fun _ =>
  some (⟨a0.cell, v25⟩ : pattern)) (fun v137 =>
  some v137)
noncomputable def m140k : Nat → pattern → Option pattern
 | 0 => fun _ => none
 | k + 1 => m140r (m140k k)
noncomputable def m140 (a0 : pattern) : Option pattern := limO (fun k => m140k k a0)
noncomputable def m115_1b (a1 : (List Int)) (p5 : Int) (p : (pattern × Int)) : Option (Ctl (pattern × Int) pattern) :=
 sel2 p fun s18 s19 =>
 br (ltI s19 p5) (
  bnd (idx a1 s19) fun x21 =>
  bnd (m139 s18 x21) fun r28 =>
  bnd (m140 r28) fun r31 =>
  some (.nxt (r31, wadd .i64 s19 1))) (
  some (.out s18))
noncomputable def m115 (a0 : (List ReCell)) (a1 : (List Int)) : Option Bool :=
 bnd (m138 a0) fun p => sel2 p fun r3 r4 =>
 bnd (loopP (m115_1b a1 (↑a1.length : Int)) (r3, 0)) fun v34 =>
 bnd (m141 v34) fun r37 =>
 some r37
noncomputable def m149 (a0 : Prefix) : Option Int :=
 bnd (m77 a0.len) fun r3 =>
 some (wsub .i64 (wadd .i64 a0.addr r3) 1)
noncomputable def m137 (a0 : Prefix) (a1 : Int) : Option Bool :=
 bnd (m149 a0) fun r3 =>
 bnd (m75 a1 a0.addr r3) fun r6 =>
 some r6
noncomputable def m114_1 (a0 : Prefix) (a1 : Prefix) : Option Bool :=
 br (leI a0.len a1.len) (
  bnd (m137 a0 a1.addr) fun r4 =>
  some r4) (
  some false)
noncomputable def m114 (a0 : Prefix) (a1 : Prefix) : Option Bool :=
 bnd (m114_1 a0 a1) fun v7 =>
 some v7
noncomputable def m113_1 (a1 : Route) (a0 : Range) : Option Bool :=
 bnd (m114 a0.prefix_ a1.prefix_) fun r3 =>
 br r3 (
  bnd (m75 a1.prefix_.len a0.lo a0.hi) fun r7 =>
  some r7) (
  some false)
noncomputable def m113 (a0 : Range) (a1 : Route) : Option Bool :=
 bnd (m113_1 a1 a0) fun v10 =>
 some v10
noncomputable def m66_1 (a0 : Term) (a1 : Route) : Option Bool :=
 br (eqI (↑a0.ranges.length : Int) 0) (
  br (eqI (↑a0.path.length : Int) 0) (
   br (eqI a0.comm (-1)) (
    some true) (
    bnd (m116 a1.attrs.comms a0.comm) fun r6 =>
    some r6)) (
   bnd (m115 a0.path a1.attrs.path) fun r9 =>
   br r9 (
    br (eqI a0.comm (-1)) (
     some true) (
     bnd (m116 a1.attrs.comms a0.comm) fun r14 =>
     some r14)) (
    some false))) (
  bnd (m85 a0.ranges (fun y0 => m113 y0 a1)) fun r17 =>
  br r17 (
   br (eqI (↑a0.path.length : Int) 0) (
    br (eqI a0.comm (-1)) (
     some true) (
     bnd (m116 a1.attrs.comms a0.comm) fun r23 =>
     some r23)) (
    bnd (m115 a0.path a1.attrs.path) fun r26 =>
    br r26 (
     br (eqI a0.comm (-1)) (
      some true) (
      bnd (m116 a1.attrs.comms a0.comm) fun r31 =>
      some r31)) (
     some false))) (
   some false))
noncomputable def m66 (a0 : Term) (a1 : Route) : Option Bool :=
 bnd (m66_1 a0 a1) fun v34 =>
 some v34
noncomputable def m30_1 (a0 : Term) (a1 : Route) : Option Bool :=
 bnd (m46 a0) fun r3 =>
 br r3 (
  bnd (m11 a1) fun r7 =>
  some (!r7)) (
  some true)
noncomputable def m30 (a0 : Term) (a1 : Route) : Option (Bool × Bool) :=
 bnd (m30_1 a0 a1) fun v10 =>
 br v10 (
  some (false, false)) (
  bnd (m66 a0 a1) fun r14 =>
  some (r14, true))
noncomputable def m39 (a0 : Prefix) (a1 : Prefix) : Option Bool :=
 br (eqI a0.addr a1.addr) (
  br (eqI a0.len a1.len) (
   some true) (
   some false)) (
  some false)
noncomputable def m117 (a0 : Range) (a1 : Range) : Option Bool :=
 bnd (m39 a0.prefix_ a1.prefix_) fun r3 =>
 br r3 (
  br (eqI a0.lo a1.lo) (
   br (eqI a0.hi a1.hi) (
    some true) (
    some false)) (
   some false)) (
  some false)
noncomputable def m67_1b (a0 : (List Range)) (a1 : (List Range)) (s17 : Int) : Option (Ctl Int (Unit ⊕ Unit)) :=
 br (ltI s17 (↑a0.length : Int)) (
  bnd (idx a0 s17) fun x19 =>
  bnd (idx a1 s17) fun x24 =>
  bnd (m117 x19 x24) fun r31 =>
  br r31 (
   some (.nxt (wadd .i64 s17 1))) (
   some (.out (.inr ())))) (
  some (.out (.inl ())))
noncomputable def m67 (a0 : (List Range)) (a1 : (List Range)) : Option Bool :=
 br (eqI (↑a0.length : Int) (↑a1.length : Int)) (
  bnd (loopP (m67_1b a0 a1) 0) fun o => selS o (fun _ =>
   some true) (fun _ =>
   some false)) (
  some false)
noncomputable def m118 (a0 : ReCell) (a1 : ReCell) : Option Bool :=
 br (eqI a0.kind a1.kind) (
  br (eqI a0.n a1.n) (
   some true) (
   some false)) (
  some false)
noncomputable def m68_1b (a0 : (List ReCell)) (a1 : (List ReCell)) (s17 : Int) : Option (Ctl Int (Unit ⊕ Unit)) :=
 br (ltI s17 (↑a0.length : Int)) (
  bnd (idx a0 s17) fun x19 =>
  bnd (idx a1 s17) fun x24 =>
  bnd (m118 x19 x24) fun r31 =>
  br r31 (
   some (.nxt (wadd .i64 s17 1))) (
   some (.out (.inr ())))) (
  some (.out (.inl ())))
noncomputable def m68 (a0 : (List ReCell)) (a1 : (List ReCell)) : Option Bool :=
 br (eqI (↑a0.length : Int) (↑a1.length : Int)) (
  bnd (loopP (m68_1b a0 a1) 0) fun o => selS o (fun _ =>
   some true) (fun _ =>
   some false)) (
  some false)
noncomputable def m119 (a0 : Acn) (a1 : Acn) : Option Bool :=
 br (eqI a0.kind a1.kind) (
  br (eqI a0.n a1.n) (
   some true) (
   some false)) (
  some false)
noncomputable def m69_1b (a0 : (List Acn)) (a1 : (List Acn)) (s17 : Int) : Option (Ctl Int (Unit ⊕ Unit)) :=
 br (ltI s17 (↑a0.length : Int)) (
  bnd (idx a0 s17) fun x19 =>
  bnd (idx a1 s17) fun x24 =>
  bnd (m119 x19 x24) fun r31 =>
  br r31 (
   some (.nxt (wadd .i64 s17 1))) (
   some (.out (.inr ())))) (
  some (.out (.inl ())))
noncomputable def m69 (a0 : (List Acn)) (a1 : (List Acn)) : Option Bool :=
 br (eqI (↑a0.length : Int) (↑a1.length : Int)) (
  bnd (loopP (m69_1b a0 a1) 0) fun o => selS o (fun _ =>
   some true) (fun _ =>
   some false)) (
  some false)
noncomputable def m31 (a0 : Term) (a1 : Term) : Option Bool :=
 bnd (m67 a0.ranges a1.ranges) fun r3 =>
 br r3 (
  bnd (m68 a0.path a1.path) fun r7 =>
  br r7 (
   br (eqI a0.comm a1.comm) (
    bnd (m69 a0.acts a1.acts) fun r12 =>
    br r12 (
     br (eqI a0.verdict a1.verdict) (
      some true) (
      some false)) (
     some false)) (
    some false)) (
   some false)) (
  some false)
noncomputable def m81_1b (a0 : (List Int)) (a1 : (List Int)) (s14 : Int) : Option (Ctl Int (Unit ⊕ Unit)) :=
 br (ltI s14 (↑a0.length : Int)) (
  bnd (idx a0 s14) fun x16 =>
  bnd (idx a1 s14) fun x21 =>
  br (eqI x16 x21) (
   some (.nxt (wadd .i64 s14 1))) (
   some (.out (.inr ())))) (
  some (.out (.inl ())))
noncomputable def m81 (a0 : (List Int)) (a1 : (List Int)) : Option Bool :=
 br (eqI (↑a0.length : Int) (↑a1.length : Int)) (
  bnd (loopP (m81_1b a0 a1) 0) fun o => selS o (fun _ =>
   some true) (fun _ =>
   some false)) (
  some false)
noncomputable def m40 (a0 : Attrs) (a1 : Attrs) : Option Bool :=
 br (eqI a0.origin a1.origin) (
  bnd (m81 a0.path a1.path) fun r4 =>
  br r4 (
   br (eqI a0.next a1.next) (
    br (eqI a0.med a1.med) (
     br (eqI a0.pref a1.pref) (
      bnd (m81 a0.comms a1.comms) fun r11 =>
      br r11 (
       some true) (
       some false)) (
      some false)) (
     some false)) (
    some false)) (
   some false)) (
  some false)
noncomputable def m12 (a0 : Route) (a1 : Route) : Option Bool :=
 bnd (m39 a0.prefix_ a1.prefix_) fun r3 =>
 br r3 (
  bnd (m40 a0.attrs a1.attrs) fun r7 =>
  br r7 (
   some true) (
   some false)) (
  some false)
noncomputable def m7_1 (r17 : Bool) (r18 : Bool) (r25 : Bool) (r26 : Bool) : Option Bool :=
 br (eqB r25 r17) (
  some (!eqB r26 r18)) (
  some true)
noncomputable def m7 (a0 : Term) (a1 : Route) : Option Bool :=
 bnd (m27 a0 1048576) fun r3 =>
 br (ltI r3 0) (
  some true) (
  bnd (m8 a1 r3) fun r7 =>
  br (ltI r7 0) (
   some true) (
   bnd (m29 a0) fun r11 =>
   bnd (m10 a1) fun r14 =>
   bnd (m28 r11 r14) fun p => sel2 p fun r17 r18 =>
   bnd (m30 r11 r14) fun p => sel2 p fun r25 r26 =>
   bnd (m7_1 r17 r18 r25 r26) fun v30 =>
   br v30 (
    some false) (
    bnd (m31 r11 r11) fun r36 =>
    br r36 (
     bnd (m12 r14 r14) fun r42 =>
     br r42 (
      some true) (
      some false)) (
     some false))))
end Go.Pi.Ythidbgihjhkjaaa.TermFits
