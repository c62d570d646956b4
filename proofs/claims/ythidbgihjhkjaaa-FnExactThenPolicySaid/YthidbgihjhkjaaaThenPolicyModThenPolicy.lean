/- What functions of the program answer, and that the law answers true at every input; no condition -/
import Derived.Test.YthidbgihjhkjaaaPiD
set_option linter.all false
/- Functions of the program, in plain Lean. -/
namespace Go.Pi.Ythidbgihjhkjaaa.ThenPolicy
open Go Go.Pi
set_option maxRecDepth 100000
set_option linter.all false
def wfInt (x : Int) : Prop := -9223372036854775808 ≤ x ∧ x ≤ 9223372036854775807
structure Prefix where
  addr : Int
  len : Int
  deriving Inhabited, DecidableEq
def wfPrefix (x : Prefix) : Prop := wfInt x.addr ∧ wfInt x.len
structure Range where
  prefix_ : Prefix
  lo : Int
  hi : Int
  deriving Inhabited, DecidableEq
def wfRange (x : Range) : Prop := wfPrefix x.prefix_ ∧ wfInt x.lo ∧ wfInt x.hi
def wfLRange (x : (List Range)) : Prop := x.length ≤ 9223372036854775807 ∧ ∀ y ∈ x, wfRange y
structure ReCell where
  kind : Int
  n : Int
  deriving Inhabited, DecidableEq
def wfReCell (x : ReCell) : Prop := wfInt x.kind ∧ wfInt x.n
def wfLReCell (x : (List ReCell)) : Prop := x.length ≤ 9223372036854775807 ∧ ∀ y ∈ x, wfReCell y
structure Acn where
  kind : Int
  n : Int
  deriving Inhabited, DecidableEq
def wfAcn (x : Acn) : Prop := wfInt x.kind ∧ wfInt x.n
def wfLAcn (x : (List Acn)) : Prop := x.length ≤ 9223372036854775807 ∧ ∀ y ∈ x, wfAcn y
structure Term where
  ranges : (List Range)
  path : (List ReCell)
  comm : Int
  acts : (List Acn)
  verdict : Int
  deriving Inhabited, DecidableEq
def wfTerm (x : Term) : Prop := wfLRange x.ranges ∧ wfLReCell x.path ∧ wfInt x.comm ∧ wfLAcn x.acts ∧ wfInt x.verdict
def wfLTerm (x : (List Term)) : Prop := x.length ≤ 9223372036854775807 ∧ ∀ y ∈ x, wfTerm y
def wfBool (x : Bool) : Prop := True
structure Policy where
  terms : (List Term)
  accept : Bool
  deriving Inhabited, DecidableEq
def wfPolicy (x : Policy) : Prop := wfLTerm x.terms ∧ wfBool x.accept
inductive l6T where
  | mk (kind : Int) (n : Int) (kids : (List l6T))
def l6T.kind : l6T → Int
  | .mk x _ _ => x
def l6T.n : l6T → Int
  | .mk _ x _ => x
def l6T.kids : l6T → (List l6T)
  | .mk _ _ x => x
instance : Inhabited l6T := ⟨.mk 0 0 []⟩
theorem l6T.eta (x : l6T) : x = ⟨x.kind, x.n, x.kids⟩ := by cases x; rfl
def wfl6T (x : l6T) : Prop := True
def wfLl6T (x : (List l6T)) : Prop := x.length ≤ 9223372036854775807 ∧ ∀ y ∈ x, wfl6T y
-- f59 laws.szRangeS
noncomputable def m59 (a0 : (List Range)) (a1 : Int) : Option Int :=
  br (ltI (wsub .i64 a1 (↑a0.length : Int)) 0) (
    some (-1)) (
    some (wsub .i64 a1 (↑a0.length : Int)))
-- f60 laws.szReCellS
noncomputable def m60 (a0 : (List ReCell)) (a1 : Int) : Option Int :=
  br (ltI (wsub .i64 a1 (↑a0.length : Int)) 0) (
    some (-1)) (
    some (wsub .i64 a1 (↑a0.length : Int)))
-- f61 laws.szActS
noncomputable def m61 (a0 : (List Acn)) (a1 : Int) : Option Int :=
  br (ltI (wsub .i64 a1 (↑a0.length : Int)) 0) (
    some (-1)) (
    some (wsub .i64 a1 (↑a0.length : Int)))
-- f27 laws.szTerm
noncomputable def m27 (a0 : Term) (a1 : Int) : Option Int :=
  bnd (m59 a0.ranges a1) fun r3 =>
  br (ltI r3 0) (
    some (-1)) (
    bnd (m60 a0.path r3) fun r7 =>
    br (ltI r7 0) (
      some (-1)) (
      bnd (m61 a0.acts r7) fun r11 =>
      br (ltI r11 0) (
        some (-1)) (
        some r11)))
-- f41 laws.szTermS
noncomputable def m41_1b (a0 : (List Term)) (p : (Int × Int)) : Option (Ctl (Int × Int) (Int ⊕ Unit)) :=
  sel2 p fun s13 s14 =>
  br (ltI s14 (↑a0.length : Int)) (
    bnd (idx a0 s14) fun x16 =>
    bnd (m27 x16 s13) fun r23 =>
    br (ltI r23 0) (
      some (.out (.inr ()))) (
      some (.nxt (r23, wadd .i64 s14 1)))) (
    some (.out (.inl s13)))
noncomputable def m41 (a0 : (List Term)) (a1 : Int) : Option Int :=
  br (ltI (wsub .i64 a1 (↑a0.length : Int)) 0) (
    some (-1)) (
    bnd (loopP (m41_1b a0) (wsub .i64 a1 (↑a0.length : Int), 0)) fun o => selS o (fun v27 =>
      some v27) (fun _ =>
      some (-1)))
-- f13 laws.szPolicy
noncomputable def m13 (a0 : Policy) (a1 : Int) : Option Int :=
  bnd (m41 a0.terms a1) fun r3 =>
  br (ltI r3 0) (
    some (-1)) (
    some r3)
-- f35 laws.toPrefix
noncomputable def m35 (a0 : Prefix) : Option Prefix :=
  some a0
-- f111 laws.toRange
noncomputable def m111 (a0 : Range) : Option Range :=
  bnd (m35 a0.prefix_) fun r3 =>
  some (⟨r3, a0.lo, a0.hi⟩ : Range)
-- f63 laws.toRangeS
noncomputable def m63_1b (a0 : (List Range)) (p : (Int × List Range)) : Option (Ctl (Int × List Range) (List Range)) :=
  sel2 p fun s17 s18 =>
  br (ltI s17 (↑a0.length : Int)) (
    bnd (idx a0 s17) fun x20 =>
    bnd (m111 x20) fun r27 =>
    bnd (idx s18 s17) fun x28 =>
    some (.nxt (wadd .i64 s17 1, s18.set s17.toNat r27))) (
    some (.out s18))
noncomputable def m63 (a0 : (List Range)) : Option (List Range) :=
  ck (0 ≤ (↑a0.length : Int) ∧ (↑a0.length : Int) ≤ (↑a0.length : Int) ∧ (↑a0.length : Int) ≤ 4294967296) <|
  bnd (loopP (m63_1b a0) (0, List.replicate a0.length (⟨(⟨0, 0⟩ : Prefix), 0, 0⟩ : Range))) fun v35 =>
  some v35
-- f112 laws.toReCell
noncomputable def m112 (a0 : ReCell) : Option ReCell :=
  some a0
-- f64 laws.toReCellS
noncomputable def m64_1b (a0 : (List ReCell)) (p : (Int × List ReCell)) : Option (Ctl (Int × List ReCell) (List ReCell)) :=
  sel2 p fun s17 s18 =>
  br (ltI s17 (↑a0.length : Int)) (
    bnd (idx a0 s17) fun x20 =>
    bnd (m112 x20) fun r27 =>
    bnd (idx s18 s17) fun x28 =>
    some (.nxt (wadd .i64 s17 1, s18.set s17.toNat r27))) (
    some (.out s18))
noncomputable def m64 (a0 : (List ReCell)) : Option (List ReCell) :=
  ck (0 ≤ (↑a0.length : Int) ∧ (↑a0.length : Int) ≤ (↑a0.length : Int) ∧ (↑a0.length : Int) ≤ 4294967296) <|
  bnd (loopP (m64_1b a0) (0, List.replicate a0.length (⟨0, 0⟩ : ReCell))) fun v35 =>
  some v35
-- f19 laws.toAct
noncomputable def m19 (a0 : Acn) : Option Acn :=
  some a0
-- f65 laws.toActS
noncomputable def m65_1b (a0 : (List Acn)) (p : (Int × List Acn)) : Option (Ctl (Int × List Acn) (List Acn)) :=
  sel2 p fun s17 s18 =>
  br (ltI s17 (↑a0.length : Int)) (
    bnd (idx a0 s17) fun x20 =>
    bnd (m19 x20) fun r27 =>
    bnd (idx s18 s17) fun x28 =>
    some (.nxt (wadd .i64 s17 1, s18.set s17.toNat r27))) (
    some (.out s18))
noncomputable def m65 (a0 : (List Acn)) : Option (List Acn) :=
  ck (0 ≤ (↑a0.length : Int) ∧ (↑a0.length : Int) ≤ (↑a0.length : Int) ∧ (↑a0.length : Int) ≤ 4294967296) <|
  bnd (loopP (m65_1b a0) (0, List.replicate a0.length (⟨0, 0⟩ : Acn))) fun v35 =>
  some v35
-- f29 laws.toTerm
noncomputable def m29 (a0 : Term) : Option Term :=
  bnd (m63 a0.ranges) fun r3 =>
  bnd (m64 a0.path) fun r6 =>
  bnd (m65 a0.acts) fun r9 =>
  some (⟨r3, r6, a0.comm, r9, a0.verdict⟩ : Term)
-- f43 laws.toTermS
noncomputable def m43_1b (a0 : (List Term)) (p : (Int × List Term)) : Option (Ctl (Int × List Term) (List Term)) :=
  sel2 p fun s17 s18 =>
  br (ltI s17 (↑a0.length : Int)) (
    bnd (idx a0 s17) fun x20 =>
    bnd (m29 x20) fun r27 =>
    bnd (idx s18 s17) fun x28 =>
    some (.nxt (wadd .i64 s17 1, s18.set s17.toNat r27))) (
    some (.out s18))
noncomputable def m43 (a0 : (List Term)) : Option (List Term) :=
  ck (0 ≤ (↑a0.length : Int) ∧ (↑a0.length : Int) ≤ (↑a0.length : Int) ∧ (↑a0.length : Int) ≤ 4294967296) <|
  bnd (loopP (m43_1b a0) (0, List.replicate a0.length (⟨[], [], 0, [], 0⟩ : Term))) fun v35 =>
  some v35
-- f15 laws.toPolicy
noncomputable def m15 (a0 : Policy) : Option Policy :=
  bnd (m43 a0.terms) fun r3 =>
  some (⟨r3, a0.accept⟩ : Policy)
-- f71 spec.l1In
noncomputable def m71_1 (a0 : Int) (a1 : Int) (a2 : Int) : Option Bool :=
  br (leI a1 a0) (
    some (leI a0 a2)) (
    some false)
noncomputable def m71 (a0 : Int) (a1 : Int) (a2 : Int) : Option Bool :=
  bnd (m71_1 a0 a1 a2) fun v4 =>
  some v4
-- f72 spec.l1Addr
noncomputable def m72 (a0 : Int) : Option Bool :=
  bnd (m71 a0 0 4294967295) fun r3 =>
  some r3
-- f73 spec.l1Size
noncomputable def m73 (a0 : Prefix) : Option Int :=
  ck (¬ (wcv .u64 (wsub .i64 32 a0.len)) < 0) <|
  some (wshl .i64 1 (wcv .u64 (wsub .i64 32 a0.len)))
-- f33 spec.GoodPrefix
noncomputable def m33_1 (a0 : Prefix) : Option Bool :=
  bnd (m71 a0.len 0 32) fun r3 =>
  br r3 (
    bnd (m72 a0.addr) fun r7 =>
    br r7 (
      bnd (m73 a0) fun r11 =>
      ck (¬ r11 = 0) <|
      some (eqI (wrem .i64 a0.addr r11) 0)) (
      some false)) (
    some false)
noncomputable def m33 (a0 : Prefix) : Option Bool :=
  bnd (m33_1 a0) fun v15 =>
  some v15
-- f48 spec.l7Act
noncomputable def m48_3 (a0 : Acn) (p5 : Bool) : Option Bool :=
  br p5 (
    some p5) (
    some (eqI a0.kind 4))
noncomputable def m48_2 (a0 : Acn) (p3 : Bool) : Option Bool :=
  br p3 (
    some p3) (
    bnd (m48_3 a0 (eqI a0.kind 3)) fun v9 =>
    some v9)
noncomputable def m48_1 (a0 : Acn) (p1 : Bool) : Option Bool :=
  br p1 (
    some p1) (
    bnd (m48_2 a0 (eqI a0.kind 2)) fun v12 =>
    some v12)
noncomputable def m48_4 (a0 : Acn) : Option Bool :=
  br (eqI a0.kind 5) (
    bnd (m71 a0.n 1 65535) fun r23 =>
    some r23) (
    some false)
noncomputable def m48 (a0 : Acn) : Option Bool :=
  bnd (m48_1 a0 (eqI a0.kind 1)) fun v15 =>
  br v15 (
    bnd (m71 a0.n 0 1000000) fun r19 =>
    some r19) (
    bnd (m48_4 a0) fun v26 =>
    some v26)
-- f154 spec.l6Arity
noncomputable def m154_3 (a0 : Int) (p5 : Bool) : Option Bool :=
  br p5 (
    some p5) (
    some (eqI a0 4))
noncomputable def m154_2 (a0 : Int) (p3 : Bool) : Option Bool :=
  br p3 (
    some p3) (
    bnd (m154_3 a0 (eqI a0 3)) fun v9 =>
    some v9)
noncomputable def m154_1 (a0 : Int) (p1 : Bool) : Option Bool :=
  br p1 (
    some p1) (
    bnd (m154_2 a0 (eqI a0 2)) fun v12 =>
    some v12)
noncomputable def m154_4 (a0 : Int) (p17 : Bool) : Option Bool :=
  br p17 (
    some p17) (
    some (eqI a0 6))
noncomputable def m154 (a0 : Int) : Option Int :=
  bnd (m154_1 a0 (eqI a0 1)) fun v15 =>
  br v15 (
    some 0) (
    bnd (m154_4 a0 (eqI a0 5)) fun v21 =>
    br v21 (
      some 2) (
      br (eqI a0 7) (
        some 1) (
        some (-1))))
-- f143 spec.l6Read
noncomputable def m143_1 (rc : (List ReCell) → Int → Option (l6T × Int)) (r9 : Int) (x2 : ReCell) : Option Bool :=
  br (ltI r9 0) (
    some true) (
    br (eqI x2.kind 3) (
      bnd (m71 x2.n 1 65535) fun r14 =>
      br r14 (
        some false) (
        some true)) (
      some (!(eqI x2.n 0))))
noncomputable def m143_2b (rc : (List ReCell) → Int → Option (l6T × Int)) (a0 : (List ReCell)) (p : (Int × Int × List l6T)) : Option (Ctl (Int × Int × List l6T) ((Int × List l6T) ⊕ Unit)) :=
  sel3 p fun s27 s28 s29 =>
  br (ltI 0 s28) (
    bnd (rc a0 s27) fun p => sel2 p fun r33 r34 =>
    br (eqI r34 0) (
      some (.out (.inr ()))) (
      ck (s29.length + 1 ≤ 4294967296) <|
      some (.nxt (r34, wsub .i64 s28 1, s29 ++ [r33])))) (
    some (.out (.inl (s27, s29))))
noncomputable def m143r (rc : (List ReCell) → Int → Option (l6T × Int)) (a0 : (List ReCell)) (a1 : Int) : Option (l6T × Int) :=
  br (leI (↑a0.length : Int) a1) (
    some ((⟨0, 0, []⟩ : l6T), 0)) (
    bnd (idx a0 a1) fun x2 =>
    bnd (m154 x2.kind) fun r9 =>
    bnd (m143_1 rc r9 x2) fun v18 =>
    br v18 (
      some ((⟨0, 0, []⟩ : l6T), 0)) (
      bnd (loopP (m143_2b rc a0) (wadd .i64 a1 1, r9, [])) fun o => selS o (fun p => sel2 p fun v39 v40 =>
        some ((⟨x2.kind, x2.n, v40⟩ : l6T), v39)) (fun _ =>
        some ((⟨0, 0, []⟩ : l6T), 0))))
noncomputable def m143k : Nat → (List ReCell) → Int → Option (l6T × Int)
  | 0 => fun _ _ => none
  | k + 1 => m143r (m143k k)
noncomputable def m143 (a0 : (List ReCell)) (a1 : Int) : Option (l6T × Int) := limO (fun k => m143k k a0 a1)
-- f122 spec.l6Tree
noncomputable def m122_1 (a0 : (List ReCell)) (r5 : Int) : Option Bool :=
  br (ltI 0 r5) (
    some (eqI r5 (↑a0.length : Int))) (
    some false)
noncomputable def m122 (a0 : (List ReCell)) : Option (l6T × Bool) :=
  br (ltI 30 (↑a0.length : Int)) (
    some ((⟨0, 0, []⟩ : l6T), false)) (
    bnd (m143 a0 0) fun p => sel2 p fun r4 r5 =>
    bnd (m122_1 a0 r5) fun v9 =>
    some (r4, v9))
-- f82 spec.GoodRegex
noncomputable def m82 (a0 : (List ReCell)) : Option Bool :=
  bnd (m122 a0) fun p => sel2 p fun r3 r4 =>
  some r4
-- f42 spec.l7Term
noncomputable def m42_3 (x25 : Range) : Option Bool :=
  bnd (m33 x25.prefix_) fun r32 =>
  br r32 (
    bnd (m71 x25.lo x25.prefix_.len 32) fun r36 =>
    br r36 (
      bnd (m71 x25.hi x25.lo 32) fun r40 =>
      some (!r40)) (
      some true)) (
    some true)
noncomputable def m42_1b (a0 : Term) (p1 : Int) (s23 : Int) : Option (Ctl Int (Unit ⊕ Unit)) :=
  br (ltI s23 p1) (
    bnd (idx a0.ranges s23) fun x25 =>
    bnd (m42_3 x25) fun v43 =>
    br v43 (
      some (.out (.inr ()))) (
      some (.nxt (wadd .i64 s23 1)))) (
    some (.out (.inl ())))
noncomputable def m42_4b (a0 : Term) (p47 : Int) (s58 : Int) : Option (Ctl Int (Unit ⊕ Unit)) :=
  br (ltI s58 p47) (
    bnd (idx a0.acts s58) fun x60 =>
    bnd (m48 x60) fun r67 =>
    br r67 (
      some (.nxt (wadd .i64 s58 1))) (
      some (.out (.inr ())))) (
    some (.out (.inl ())))
noncomputable def m42_5 (a0 : Term) : Option Bool :=
  br (leI (↑a0.ranges.length : Int) 6) (
    br (leI (↑a0.acts.length : Int) 5) (
      br (eqI (↑a0.path.length : Int) 0) (
        bnd (m71 a0.comm (-1) 1000000) fun r76 =>
        br r76 (
          bnd (m71 a0.verdict 0 2) fun r80 =>
          some r80) (
          some false)) (
        bnd (m82 a0.path) fun r83 =>
        br r83 (
          bnd (m71 a0.comm (-1) 1000000) fun r87 =>
          br r87 (
            bnd (m71 a0.verdict 0 2) fun r91 =>
            some r91) (
            some false)) (
          some false))) (
      some false)) (
    some false)
noncomputable def m42 (a0 : Term) : Option Bool :=
  bnd (loopP (m42_1b a0 (↑a0.ranges.length : Int)) 0) fun o => selS o (fun _ =>
    bnd (loopP (m42_4b a0 (↑a0.acts.length : Int)) 0) fun o => selS o (fun _ =>
      bnd (m42_5 a0) fun v94 =>
      some v94) (fun _ =>
      some false)) (fun _ =>
    some false)
-- f14 spec.GoodPolicy
noncomputable def m14_1b (a0 : Policy) (p1 : Int) (s12 : Int) : Option (Ctl Int (Unit ⊕ Unit)) :=
  br (ltI s12 p1) (
    bnd (idx a0.terms s12) fun x14 =>
    bnd (m42 x14) fun r21 =>
    br r21 (
      some (.nxt (wadd .i64 s12 1))) (
      some (.out (.inr ())))) (
    some (.out (.inl ())))
noncomputable def m14 (a0 : Policy) : Option Bool :=
  bnd (loopP (m14_1b a0 (↑a0.terms.length : Int)) 0) fun o => selS o (fun _ =>
    some (leI (↑a0.terms.length : Int) 8)) (fun _ =>
    some false)
-- f54 spec.l7OwnTerm
noncomputable def m54 (a0 : Term) : Option Term :=
  ck (0 + a0.ranges.length ≤ 4294967296) <|
  ck (0 + a0.path.length ≤ 4294967296) <|
  ck (0 + a0.acts.length ≤ 4294967296) <|
  some a0
-- f23 spec.ThenPolicy
noncomputable def m23_1 (a0 : Policy) (a1 : Policy) : Option Bool :=
  bnd (m14 a0) fun r3 =>
  br r3 (
    bnd (m14 a1) fun r7 =>
    br r7 (
      br a0.accept (
        some (ltI 8 (wadd .i64 (↑a0.terms.length : Int) (↑a1.terms.length : Int)))) (
        some true)) (
      some true)) (
    some true)
noncomputable def m23_2b (a0 : Policy) (p14 : Int) (p : (Int × List Term)) : Option (Ctl (Int × List Term) (List Term ⊕ Unit)) :=
  sel2 p fun s25 s26 =>
  br (ltI s25 p14) (
    bnd (idx a0.terms s25) fun x28 =>
    br (eqI x28.verdict 1) (
      some (.out (.inr ()))) (
      bnd (m54 x28) fun r36 =>
      ck (s26.length + 1 ≤ 4294967296) <|
      some (.nxt (wadd .i64 s25 1, s26 ++ [r36])))) (
    some (.out (.inl s26)))
noncomputable def m23_3b (a1 : Policy) (p41 : Int) (p : (Int × List Term)) : Option (Ctl (Int × List Term) (List Term)) :=
  sel2 p fun s52 s53 =>
  br (ltI s52 p41) (
    bnd (idx a1.terms s52) fun x55 =>
    bnd (m54 x55) fun r62 =>
    ck (s53.length + 1 ≤ 4294967296) <|
    some (.nxt (wadd .i64 s52 1, s53 ++ [r62]))) (
    some (.out s53))
noncomputable def m23 (a0 : Policy) (a1 : Policy) : Option (Policy × Bool) :=
  bnd (m23_1 a0 a1) fun v12 =>
  br v12 (
    some ((⟨[], false⟩ : Policy), false)) (
    bnd (loopP (m23_2b a0 (↑a0.terms.length : Int)) (0, [])) fun o => selS o (fun v40 =>
      bnd (loopP (m23_3b a1 (↑a1.terms.length : Int)) (0, v40)) fun v66 =>
      some ((⟨v66, a1.accept⟩ : Policy), true)) (fun _ =>
      some ((⟨[], false⟩ : Policy), false)))
-- f83 slices.IndexFunc[[]impl.Term,impl.Term]
noncomputable def m83_1b (a0 : (List Term)) (p1 : Int) (a1 : (Term → Option Bool)) (s12 : Int) : Option (Ctl Int (Unit ⊕ Int)) :=
  br (ltI s12 p1) (
    bnd (idx a0 s12) fun x14 =>
    bnd (a1 x14) fun r19 =>
    br r19 (
      some (.out (.inr s12))) (
      some (.nxt (wadd .i64 s12 1)))) (
    some (.out (.inl ())))
noncomputable def m83 (a0 : (List Term)) (a1 : (Term → Option Bool)) : Option Int :=
  bnd (loopP (m83_1b a0 (↑a0.length : Int) a1) 0) fun o => selS o (fun _ =>
    some (-1)) (fun v25 =>
    some v25)
-- f44 slices.ContainsFunc[[]impl.Term,impl.Term]
noncomputable def m44 (a0 : (List Term)) (a1 : (Term → Option Bool)) : Option Bool :=
  bnd (m83 a0 a1) fun r3 =>
  some (leI 0 r3)
-- f75 impl.within
noncomputable def m75_1 (a0 : Int) (a1 : Int) (a2 : Int) : Option Bool :=
  br (leI a1 a0) (
    some (leI a0 a2)) (
    some false)
noncomputable def m75 (a0 : Int) (a1 : Int) (a2 : Int) : Option Bool :=
  bnd (m75_1 a0 a1 a2) fun v4 =>
  some v4
-- f144 impl.partsOf
noncomputable def m144_3 (a0 : Int) (p5 : Bool) : Option Bool :=
  br p5 (
    some p5) (
    some (eqI a0 4))
noncomputable def m144_2 (a0 : Int) (p3 : Bool) : Option Bool :=
  br p3 (
    some p3) (
    bnd (m144_3 a0 (eqI a0 3)) fun v9 =>
    some v9)
noncomputable def m144_1 (a0 : Int) (p1 : Bool) : Option Bool :=
  br p1 (
    some p1) (
    bnd (m144_2 a0 (eqI a0 2)) fun v12 =>
    some v12)
noncomputable def m144_4 (a0 : Int) (p18 : Bool) : Option Bool :=
  br p18 (
    some p18) (
    some (eqI a0 6))
noncomputable def m144 (a0 : Int) : Option Int :=
  bnd (m144_1 a0 (eqI a0 1)) fun v15 =>
  br v15 (
    some 0) (
    br (eqI a0 7) (
      some 1) (
      bnd (m144_4 a0 (eqI a0 5)) fun v22 =>
      br v22 (
        some 2) (
        some (-1))))
-- f123 impl.sizeAt
noncomputable def m123_1b (a0 : (List ReCell)) (a1 : Int) (p : (Int × Int)) : Option (Ctl (Int × Int) (Unit ⊕ Int)) :=
  sel2 p fun s12 s13 =>
  br (ltI s13 (↑a0.length : Int)) (
    bnd (idx a0 s13) fun x15 =>
    bnd (m144 x15.kind) fun r22 =>
    br (ltI r22 0) (
      some (.out (.inr (-1)))) (
      br (eqI (wadd .i64 s12 (wsub .i64 r22 1)) 0) (
        some (.out (.inr (wsub .i64 (wadd .i64 s13 1) a1)))) (
        some (.nxt (wadd .i64 s12 (wsub .i64 r22 1), wadd .i64 s13 1))))) (
    some (.out (.inl ())))
noncomputable def m123 (a0 : (List ReCell)) (a1 : Int) : Option Int :=
  bnd (loopP (m123_1b a0 a1) (1, a1)) fun o => selS o (fun _ =>
    some (-1)) (fun v27 =>
    some v27)
-- f145 slices.IndexFunc[[]impl.ReCell,impl.ReCell]
noncomputable def m145_1b (a0 : (List ReCell)) (p1 : Int) (a1 : (ReCell → Option Bool)) (s12 : Int) : Option (Ctl Int (Unit ⊕ Int)) :=
  br (ltI s12 p1) (
    bnd (idx a0 s12) fun x14 =>
    bnd (a1 x14) fun r19 =>
    br r19 (
      some (.out (.inr s12))) (
      some (.nxt (wadd .i64 s12 1)))) (
    some (.out (.inl ())))
noncomputable def m145 (a0 : (List ReCell)) (a1 : (ReCell → Option Bool)) : Option Int :=
  bnd (loopP (m145_1b a0 (↑a0.length : Int) a1) 0) fun o => selS o (fun _ =>
    some (-1)) (fun v25 =>
    some v25)
-- f124 slices.ContainsFunc[[]impl.ReCell,impl.ReCell]
noncomputable def m124 (a0 : (List ReCell)) (a1 : (ReCell → Option Bool)) : Option Bool :=
  bnd (m145 a0 a1) fun r3 =>
  some (leI 0 r3)
-- f91 impl.isAsn
noncomputable def m91 (a0 : Int) : Option Bool :=
  bnd (m75 a0 1 65535) fun r3 =>
  some r3
-- f125 impl.GoodRegex$1
noncomputable def m125_1 (a0 : ReCell) : Option Bool :=
  br (eqI a0.kind 3) (
    bnd (m91 a0.n) fun r4 =>
    br r4 (
      some false) (
      some true)) (
    some (!(eqI a0.n 0)))
noncomputable def m125 (a0 : ReCell) : Option Bool :=
  bnd (m125_1 a0) fun v8 =>
  some v8
-- f84 impl.GoodRegex
noncomputable def m84_1 (a0 : (List ReCell)) : Option Bool :=
  bnd (m75 (↑a0.length : Int) 1 30) fun r3 =>
  br r3 (
    bnd (m123 a0 0) fun r7 =>
    some (!(eqI r7 (↑a0.length : Int)))) (
    some true)
noncomputable def m84 (a0 : (List ReCell)) : Option Bool :=
  bnd (m84_1 a0) fun v10 =>
  br v10 (
    some false) (
    bnd (m124 a0 (fun y0 => m125 y0)) fun r14 =>
    some (!r14))
-- f79 impl.isValue
noncomputable def m79 (a0 : Int) : Option Bool :=
  bnd (m75 a0 0 1000000) fun r3 =>
  some r3
-- f126 slices.IndexFunc[[]impl.Range,impl.Range]
noncomputable def m126_1b (a0 : (List Range)) (p1 : Int) (a1 : (Range → Option Bool)) (s12 : Int) : Option (Ctl Int (Unit ⊕ Int)) :=
  br (ltI s12 p1) (
    bnd (idx a0 s12) fun x14 =>
    bnd (a1 x14) fun r19 =>
    br r19 (
      some (.out (.inr s12))) (
      some (.nxt (wadd .i64 s12 1)))) (
    some (.out (.inl ())))
noncomputable def m126 (a0 : (List Range)) (a1 : (Range → Option Bool)) : Option Int :=
  bnd (loopP (m126_1b a0 (↑a0.length : Int) a1) 0) fun o => selS o (fun _ =>
    some (-1)) (fun v25 =>
    some v25)
-- f85 slices.ContainsFunc[[]impl.Range,impl.Range]
noncomputable def m85 (a0 : (List Range)) (a1 : (Range → Option Bool)) : Option Bool :=
  bnd (m126 a0 a1) fun r3 =>
  some (leI 0 r3)
-- f76 impl.isAddr
noncomputable def m76 (a0 : Int) : Option Bool :=
  bnd (m75 a0 0 4294967295) fun r3 =>
  some r3
-- f77 impl.sizeOf
noncomputable def m77 (a0 : Int) : Option Int :=
  ck (¬ (wsub .i64 32 a0) < 0) <|
  some (wshl .i64 1 (wsub .i64 32 a0))
-- f37 impl.GoodPrefix
noncomputable def m37_1 (a0 : Prefix) : Option Bool :=
  bnd (m75 a0.len 0 32) fun r3 =>
  br r3 (
    bnd (m76 a0.addr) fun r7 =>
    br r7 (
      bnd (m77 a0.len) fun r11 =>
      ck (¬ r11 = 0) <|
      some (eqI (wrem .i64 a0.addr r11) 0)) (
      some false)) (
    some false)
noncomputable def m37 (a0 : Prefix) : Option Bool :=
  bnd (m37_1 a0) fun v15 =>
  some v15
-- f86 impl.isTerm$1
noncomputable def m86_1 (a0 : Range) : Option Bool :=
  bnd (m37 a0.prefix_) fun r3 =>
  br r3 (
    br (ltI a0.lo a0.prefix_.len) (
      some true) (
      br (ltI a0.hi a0.lo) (
        some true) (
        some (ltI 32 a0.hi)))) (
    some true)
noncomputable def m86 (a0 : Range) : Option Bool :=
  bnd (m86_1 a0) fun v9 =>
  some v9
-- f127 slices.IndexFunc[[]impl.Act,impl.Act]
noncomputable def m127_1b (a0 : (List Acn)) (p1 : Int) (a1 : (Acn → Option Bool)) (s12 : Int) : Option (Ctl Int (Unit ⊕ Int)) :=
  br (ltI s12 p1) (
    bnd (idx a0 s12) fun x14 =>
    bnd (a1 x14) fun r19 =>
    br r19 (
      some (.out (.inr s12))) (
      some (.nxt (wadd .i64 s12 1)))) (
    some (.out (.inl ())))
noncomputable def m127 (a0 : (List Acn)) (a1 : (Acn → Option Bool)) : Option Int :=
  bnd (loopP (m127_1b a0 (↑a0.length : Int) a1) 0) fun o => selS o (fun _ =>
    some (-1)) (fun v25 =>
    some v25)
-- f87 slices.ContainsFunc[[]impl.Act,impl.Act]
noncomputable def m87 (a0 : (List Acn)) (a1 : (Acn → Option Bool)) : Option Bool :=
  bnd (m127 a0 a1) fun r3 =>
  some (leI 0 r3)
-- f50 impl.isAct
noncomputable def m50_3 (a0 : Acn) (p5 : Bool) : Option Bool :=
  br p5 (
    some p5) (
    some (eqI a0.kind 4))
noncomputable def m50_2 (a0 : Acn) (p3 : Bool) : Option Bool :=
  br p3 (
    some p3) (
    bnd (m50_3 a0 (eqI a0.kind 3)) fun v9 =>
    some v9)
noncomputable def m50_1 (a0 : Acn) (p1 : Bool) : Option Bool :=
  br p1 (
    some p1) (
    bnd (m50_2 a0 (eqI a0.kind 2)) fun v12 =>
    some v12)
noncomputable def m50 (a0 : Acn) : Option Bool :=
  bnd (m50_1 a0 (eqI a0.kind 1)) fun v15 =>
  br v15 (
    bnd (m79 a0.n) fun r19 =>
    some r19) (
    br (eqI a0.kind 5) (
      bnd (m91 a0.n) fun r23 =>
      some r23) (
      some false))
-- f88 impl.isTerm$2
noncomputable def m88 (a0 : Acn) : Option Bool :=
  bnd (m50 a0) fun r3 =>
  some (!r3)
-- f46 impl.isTerm
noncomputable def m46_1 (a0 : Term) : Option Bool :=
  br (ltI 6 (↑a0.ranges.length : Int)) (
    some true) (
    br (ltI 0 (↑a0.path.length : Int)) (
      bnd (m84 a0.path) fun r5 =>
      br r5 (
        br (eqI a0.comm (-1)) (
          br (ltI 5 (↑a0.acts.length : Int)) (
            some true) (
            bnd (m75 a0.verdict 0 2) fun r11 =>
            some (!r11))) (
          bnd (m79 a0.comm) fun r14 =>
          br r14 (
            br (ltI 5 (↑a0.acts.length : Int)) (
              some true) (
              bnd (m75 a0.verdict 0 2) fun r19 =>
              some (!r19))) (
            some true))) (
        some true)) (
      br (eqI a0.comm (-1)) (
        br (ltI 5 (↑a0.acts.length : Int)) (
          some true) (
          bnd (m75 a0.verdict 0 2) fun r24 =>
          some (!r24))) (
        bnd (m79 a0.comm) fun r27 =>
        br r27 (
          br (ltI 5 (↑a0.acts.length : Int)) (
            some true) (
            bnd (m75 a0.verdict 0 2) fun r32 =>
            some (!r32))) (
          some true))))
noncomputable def m46_2 (a0 : Term) : Option Bool :=
  bnd (m85 a0.ranges (fun y0 => m86 y0)) fun r39 =>
  br r39 (
    some false) (
    bnd (m87 a0.acts (fun y0 => m88 y0)) fun r43 =>
    some (!r43))
noncomputable def m46 (a0 : Term) : Option Bool :=
  bnd (m46_1 a0) fun v35 =>
  br v35 (
    some false) (
    bnd (m46_2 a0) fun v46 =>
    some v46)
-- f45 impl.GoodPolicy$1
noncomputable def m45 (a0 : Term) : Option Bool :=
  bnd (m46 a0) fun r3 =>
  some (!r3)
-- f16 impl.GoodPolicy
noncomputable def m16_1 (a0 : Policy) : Option Bool :=
  br (leI (↑a0.terms.length : Int) 8) (
    bnd (m44 a0.terms (fun y0 => m45 y0)) fun r4 =>
    some (!r4)) (
    some false)
noncomputable def m16 (a0 : Policy) : Option Bool :=
  bnd (m16_1 a0) fun v7 =>
  some v7
-- f55 impl.ThenPolicy$1
noncomputable def m55 (a0 : Term) : Option Bool :=
  some (eqI a0.verdict 1)
-- f99 slices.Clone[[]impl.Range,impl.Range]
noncomputable def m99 (a0 : (List Range)) : Option (List Range) :=
  ck (0 + a0.length ≤ 4294967296) <|
  some a0
-- f100 slices.Clone[[]impl.ReCell,impl.ReCell]
noncomputable def m100 (a0 : (List ReCell)) : Option (List ReCell) :=
  ck (0 + a0.length ≤ 4294967296) <|
  some a0
-- f101 slices.Clone[[]impl.Act,impl.Act]
noncomputable def m101 (a0 : (List Acn)) : Option (List Acn) :=
  ck (0 + a0.length ≤ 4294967296) <|
  some a0
-- f56 impl.ownTerms
noncomputable def m56_1b (a0 : (List Term)) (p1 : Int) (p : (Int × List Term)) : Option (Ctl (Int × List Term) (List Term)) :=
  sel2 p fun s17 s18 =>
  br (ltI s17 p1) (
    bnd (idx a0 s17) fun x20 =>
    bnd (m99 x20.ranges) fun r27 =>
    bnd (m100 x20.path) fun r30 =>
    bnd (m101 x20.acts) fun r33 =>
    ck (s18.length + 1 ≤ 4294967296) <|
    some (.nxt (wadd .i64 s17 1, s18 ++ [(⟨r27, r30, x20.comm, r33, x20.verdict⟩ : Term)]))) (
    some (.out s18))
noncomputable def m56 (a0 : (List Term)) : Option (List Term) :=
  bnd (loopP (m56_1b a0 (↑a0.length : Int)) (0, [])) fun v37 =>
  some v37
-- f24 impl.ThenPolicy
noncomputable def m24_1 (a0 : Policy) (a1 : Policy) : Option Bool :=
  bnd (m16 a0) fun r3 =>
  br r3 (
    bnd (m16 a1) fun r7 =>
    br r7 (
      br a0.accept (
        some (ltI 8 (wadd .i64 (↑a0.terms.length : Int) (↑a1.terms.length : Int)))) (
        some true)) (
      some true)) (
    some true)
noncomputable def m24 (a0 : Policy) (a1 : Policy) : Option (Policy × Bool) :=
  bnd (m24_1 a0 a1) fun v12 =>
  br v12 (
    some ((⟨[], false⟩ : Policy), false)) (
    bnd (m44 a0.terms (fun y0 => m55 y0)) fun r16 =>
    br r16 (
      some ((⟨[], false⟩ : Policy), false)) (
      bnd (m56 a0.terms) fun r20 =>
      bnd (m56 a1.terms) fun r23 =>
      ck (r20.length + r23.length ≤ 4294967296) <|
      some ((⟨r20 ++ r23, a1.accept⟩ : Policy), true)))
-- f39 laws.eqPrefix
noncomputable def m39 (a0 : Prefix) (a1 : Prefix) : Option Bool :=
  br (eqI a0.addr a1.addr) (
    br (eqI a0.len a1.len) (
      some true) (
      some false)) (
    some false)
-- f117 laws.eqRange
noncomputable def m117 (a0 : Range) (a1 : Range) : Option Bool :=
  bnd (m39 a0.prefix_ a1.prefix_) fun r3 =>
  br r3 (
    br (eqI a0.lo a1.lo) (
      br (eqI a0.hi a1.hi) (
        some true) (
        some false)) (
      some false)) (
    some false)
-- f67 laws.eqRangeS
noncomputable def m67_1b (a0 : (List Range)) (a1 : (List Range)) (s17 : Int) : Option (Ctl Int (Unit ⊕ Unit)) :=
  br (ltI s17 (↑a0.length : Int)) (
    bnd (idx a0 s17) fun x19 =>
    bnd (idx a1 s17) fun x24 =>
    bnd (m117 x19 x24) fun r31 =>
    br r31 (
      some (.nxt (wadd .i64 s17 1))) (
      some (.out (.inr ())))) (
    some (.out (.inl ())))
noncomputable def m67 (a0 : (List Range)) (a1 : (List Range)) : Option Bool :=
  br (eqI (↑a0.length : Int) (↑a1.length : Int)) (
    bnd (loopP (m67_1b a0 a1) 0) fun o => selS o (fun _ =>
      some true) (fun _ =>
      some false)) (
    some false)
-- f118 laws.eqReCell
noncomputable def m118 (a0 : ReCell) (a1 : ReCell) : Option Bool :=
  br (eqI a0.kind a1.kind) (
    br (eqI a0.n a1.n) (
      some true) (
      some false)) (
    some false)
-- f68 laws.eqReCellS
noncomputable def m68_1b (a0 : (List ReCell)) (a1 : (List ReCell)) (s17 : Int) : Option (Ctl Int (Unit ⊕ Unit)) :=
  br (ltI s17 (↑a0.length : Int)) (
    bnd (idx a0 s17) fun x19 =>
    bnd (idx a1 s17) fun x24 =>
    bnd (m118 x19 x24) fun r31 =>
    br r31 (
      some (.nxt (wadd .i64 s17 1))) (
      some (.out (.inr ())))) (
    some (.out (.inl ())))
noncomputable def m68 (a0 : (List ReCell)) (a1 : (List ReCell)) : Option Bool :=
  br (eqI (↑a0.length : Int) (↑a1.length : Int)) (
    bnd (loopP (m68_1b a0 a1) 0) fun o => selS o (fun _ =>
      some true) (fun _ =>
      some false)) (
    some false)
-- f119 laws.eqAct
noncomputable def m119 (a0 : Acn) (a1 : Acn) : Option Bool :=
  br (eqI a0.kind a1.kind) (
    br (eqI a0.n a1.n) (
      some true) (
      some false)) (
    some false)
-- f69 laws.eqActS
noncomputable def m69_1b (a0 : (List Acn)) (a1 : (List Acn)) (s17 : Int) : Option (Ctl Int (Unit ⊕ Unit)) :=
  br (ltI s17 (↑a0.length : Int)) (
    bnd (idx a0 s17) fun x19 =>
    bnd (idx a1 s17) fun x24 =>
    bnd (m119 x19 x24) fun r31 =>
    br r31 (
      some (.nxt (wadd .i64 s17 1))) (
      some (.out (.inr ())))) (
    some (.out (.inl ())))
noncomputable def m69 (a0 : (List Acn)) (a1 : (List Acn)) : Option Bool :=
  br (eqI (↑a0.length : Int) (↑a1.length : Int)) (
    bnd (loopP (m69_1b a0 a1) 0) fun o => selS o (fun _ =>
      some true) (fun _ =>
      some false)) (
    some false)
-- f31 laws.eqTerm
noncomputable def m31 (a0 : Term) (a1 : Term) : Option Bool :=
  bnd (m67 a0.ranges a1.ranges) fun r3 =>
  br r3 (
    bnd (m68 a0.path a1.path) fun r7 =>
    br r7 (
      br (eqI a0.comm a1.comm) (
        bnd (m69 a0.acts a1.acts) fun r12 =>
        br r12 (
          br (eqI a0.verdict a1.verdict) (
            some true) (
            some false)) (
          some false)) (
        some false)) (
      some false)) (
    some false)
-- f47 laws.eqTermS
noncomputable def m47_1b (a0 : (List Term)) (a1 : (List Term)) (s17 : Int) : Option (Ctl Int (Unit ⊕ Unit)) :=
  br (ltI s17 (↑a0.length : Int)) (
    bnd (idx a0 s17) fun x19 =>
    bnd (idx a1 s17) fun x24 =>
    bnd (m31 x19 x24) fun r31 =>
    br r31 (
      some (.nxt (wadd .i64 s17 1))) (
      some (.out (.inr ())))) (
    some (.out (.inl ())))
noncomputable def m47 (a0 : (List Term)) (a1 : (List Term)) : Option Bool :=
  br (eqI (↑a0.length : Int) (↑a1.length : Int)) (
    bnd (loopP (m47_1b a0 a1) 0) fun o => selS o (fun _ =>
      some true) (fun _ =>
      some false)) (
    some false)
-- f17 laws.eqPolicy
noncomputable def m17 (a0 : Policy) (a1 : Policy) : Option Bool :=
  bnd (m47 a0.terms a1.terms) fun r3 =>
  br r3 (
    br (eqB a0.accept a1.accept) (
      some true) (
      some false)) (
    some false)
-- f102 laws.markRangeS
noncomputable def m102_1b (p : (Int × Int × List Range)) : Option (Ctl (Int × Int × List Range) (Int × List Range)) :=
  sel3 p fun s7 s8 s9 =>
  br (ltI s8 (↑s9.length : Int)) (
    bnd (idx s9 s8) fun x11 =>
    some (.nxt (wadd .i64 (wadd .i64 (wadd .i64 (wadd .i64 s7 1) 1) 1) 1, wadd .i64 s8 1, (((s9.set s8.toNat (⟨(⟨s7, x11.prefix_.len⟩ : Prefix), x11.lo, x11.hi⟩ : Range)).set s8.toNat (⟨(⟨s7, wadd .i64 s7 1⟩ : Prefix), x11.lo, x11.hi⟩ : Range)).set s8.toNat (⟨(⟨s7, wadd .i64 s7 1⟩ : Prefix), wadd .i64 (wadd .i64 s7 1) 1, x11.hi⟩ : Range)).set s8.toNat (⟨(⟨s7, wadd .i64 s7 1⟩ : Prefix), wadd .i64 (wadd .i64 s7 1) 1, wadd .i64 (wadd .i64 (wadd .i64 s7 1) 1) 1⟩ : Range)))) (
    some (.out (s7, s9)))
noncomputable def m102 (a0 : (List Range)) (a1 : Int) : Option (Int × List Range) :=
  bnd (loopP (m102_1b) (a1, 0, a0)) fun p => sel2 p fun v18 v19 =>
  some (v18, v19)
-- f103 laws.markReCellS
noncomputable def m103_1b (p : (Int × Int × List ReCell)) : Option (Ctl (Int × Int × List ReCell) (Int × List ReCell)) :=
  sel3 p fun s7 s8 s9 =>
  br (ltI s8 (↑s9.length : Int)) (
    bnd (idx s9 s8) fun x11 =>
    some (.nxt (wadd .i64 (wadd .i64 s7 1) 1, wadd .i64 s8 1, (s9.set s8.toNat (⟨s7, x11.n⟩ : ReCell)).set s8.toNat (⟨s7, wadd .i64 s7 1⟩ : ReCell)))) (
    some (.out (s7, s9)))
noncomputable def m103 (a0 : (List ReCell)) (a1 : Int) : Option (Int × List ReCell) :=
  bnd (loopP (m103_1b) (a1, 0, a0)) fun p => sel2 p fun v18 v19 =>
  some (v18, v19)
-- f104 laws.markActS
noncomputable def m104_1b (p : (Int × Int × List Acn)) : Option (Ctl (Int × Int × List Acn) (Int × List Acn)) :=
  sel3 p fun s7 s8 s9 =>
  br (ltI s8 (↑s9.length : Int)) (
    bnd (idx s9 s8) fun x11 =>
    some (.nxt (wadd .i64 (wadd .i64 s7 1) 1, wadd .i64 s8 1, (s9.set s8.toNat (⟨s7, x11.n⟩ : Acn)).set s8.toNat (⟨s7, wadd .i64 s7 1⟩ : Acn)))) (
    some (.out (s7, s9)))
noncomputable def m104 (a0 : (List Acn)) (a1 : Int) : Option (Int × List Acn) :=
  bnd (loopP (m104_1b) (a1, 0, a0)) fun p => sel2 p fun v18 v19 =>
  some (v18, v19)
-- f57 laws.markTermS
noncomputable def m57_1b (p : (Int × Int × List Term)) : Option (Ctl (Int × Int × List Term) (Int × List Term)) :=
  sel3 p fun s22 s23 s24 =>
  br (ltI s23 (↑s24.length : Int)) (
    bnd (idx s24 s23) fun x26 =>
    bnd (m102 x26.ranges s22) fun p => sel2 p fun r33 r34 =>
    ck (r34.length = x26.ranges.length) <|
    bnd (m103 x26.path r33) fun p => sel2 p fun r38 r39 =>
    ck (r39.length = x26.path.length) <|
    bnd (m104 x26.acts (wadd .i64 r38 1)) fun p => sel2 p fun r43 r44 =>
    ck (r44.length = x26.acts.length) <|
    some (.nxt (wadd .i64 r43 1, wadd .i64 s23 1, ((((s24.set s23.toNat (⟨r34, x26.path, x26.comm, x26.acts, x26.verdict⟩ : Term)).set s23.toNat (⟨r34, r39, x26.comm, x26.acts, x26.verdict⟩ : Term)).set s23.toNat (⟨r34, r39, r38, x26.acts, x26.verdict⟩ : Term)).set s23.toNat (⟨r34, r39, r38, r44, x26.verdict⟩ : Term)).set s23.toNat (⟨r34, r39, r38, r44, r43⟩ : Term)))) (
    some (.out (s22, s24)))
noncomputable def m57 (a0 : (List Term)) (a1 : Int) : Option (Int × List Term) :=
  bnd (loopP (m57_1b) (a1, 0, a0)) fun p => sel2 p fun v48 v49 =>
  some (v48, v49)
-- f25 laws.markPolicy
noncomputable def m25 (a0 : Policy) (a1 : Int) : Option (Int × List Term) :=
  bnd (m57 a0.terms a1) fun p => sel2 p fun r3 r4 =>
  ck (r4.length = a0.terms.length) <|
  some (r3, r4)
-- f105 laws.heldRangeS
noncomputable def m105_1b (a0 : (List Range)) (p : (Int × Int)) : Option (Ctl (Int × Int) (Int ⊕ Unit)) :=
  sel2 p fun s11 s12 =>
  br (ltI s12 (↑a0.length : Int)) (
    bnd (idx a0 s12) fun x14 =>
    br (eqI x14.prefix_.addr s11) (
      br (eqI x14.prefix_.len (wadd .i64 s11 1)) (
        br (eqI x14.lo (wadd .i64 (wadd .i64 s11 1) 1)) (
          br (eqI x14.hi (wadd .i64 (wadd .i64 (wadd .i64 s11 1) 1) 1)) (
            some (.nxt (wadd .i64 (wadd .i64 (wadd .i64 (wadd .i64 s11 1) 1) 1) 1, wadd .i64 s12 1))) (
            some (.out (.inr ())))) (
          some (.out (.inr ())))) (
        some (.out (.inr ())))) (
      some (.out (.inr ())))) (
    some (.out (.inl s11)))
noncomputable def m105 (a0 : (List Range)) (a1 : Int) : Option Int :=
  bnd (loopP (m105_1b a0) (a1, 0)) fun o => selS o (fun v25 =>
    some v25) (fun _ =>
    some (-1))
-- f106 laws.heldReCellS
noncomputable def m106_1b (a0 : (List ReCell)) (p : (Int × Int)) : Option (Ctl (Int × Int) (Int ⊕ Unit)) :=
  sel2 p fun s9 s10 =>
  br (ltI s10 (↑a0.length : Int)) (
    bnd (idx a0 s10) fun x12 =>
    br (eqI x12.kind s9) (
      br (eqI x12.n (wadd .i64 s9 1)) (
        some (.nxt (wadd .i64 (wadd .i64 s9 1) 1, wadd .i64 s10 1))) (
        some (.out (.inr ())))) (
      some (.out (.inr ())))) (
    some (.out (.inl s9)))
noncomputable def m106 (a0 : (List ReCell)) (a1 : Int) : Option Int :=
  bnd (loopP (m106_1b a0) (a1, 0)) fun o => selS o (fun v21 =>
    some v21) (fun _ =>
    some (-1))
-- f107 laws.heldActS
noncomputable def m107_1b (a0 : (List Acn)) (p : (Int × Int)) : Option (Ctl (Int × Int) (Int ⊕ Unit)) :=
  sel2 p fun s9 s10 =>
  br (ltI s10 (↑a0.length : Int)) (
    bnd (idx a0 s10) fun x12 =>
    br (eqI x12.kind s9) (
      br (eqI x12.n (wadd .i64 s9 1)) (
        some (.nxt (wadd .i64 (wadd .i64 s9 1) 1, wadd .i64 s10 1))) (
        some (.out (.inr ())))) (
      some (.out (.inr ())))) (
    some (.out (.inl s9)))
noncomputable def m107 (a0 : (List Acn)) (a1 : Int) : Option Int :=
  bnd (loopP (m107_1b a0) (a1, 0)) fun o => selS o (fun v21 =>
    some v21) (fun _ =>
    some (-1))
-- f58 laws.heldTermS
noncomputable def m58_1b (a0 : (List Term)) (p : (Int × Int)) : Option (Ctl (Int × Int) (Int ⊕ Unit)) :=
  sel2 p fun s21 s22 =>
  br (ltI s22 (↑a0.length : Int)) (
    bnd (idx a0 s22) fun x24 =>
    bnd (m105 x24.ranges s21) fun r31 =>
    br (ltI r31 0) (
      some (.out (.inr ()))) (
      bnd (m106 x24.path r31) fun r35 =>
      br (ltI r35 0) (
        some (.out (.inr ()))) (
        br (eqI x24.comm r35) (
          bnd (m107 x24.acts (wadd .i64 r35 1)) fun r40 =>
          br (ltI r40 0) (
            some (.out (.inr ()))) (
            br (eqI x24.verdict r40) (
              some (.nxt (wadd .i64 r40 1, wadd .i64 s22 1))) (
              some (.out (.inr ()))))) (
          some (.out (.inr ())))))) (
    some (.out (.inl s21)))
noncomputable def m58 (a0 : (List Term)) (a1 : Int) : Option Int :=
  bnd (loopP (m58_1b a0) (a1, 0)) fun o => selS o (fun v45 =>
    some v45) (fun _ =>
    some (-1))
-- f26 laws.heldPolicy
noncomputable def m26 (a0 : Policy) (a1 : Int) : Option Int :=
  bnd (m58 a0.terms a1) fun r3 =>
  br (ltI r3 0) (
    some (-1)) (
    some r3)
-- f6 laws.FnExactThenPolicy
noncomputable def m6_1 (r18 : Bool) (r26 : Bool) (r17 : Policy) (r25 : Policy) : Option Bool :=
  bnd (m17 r25 r17) fun r29 =>
  br r29 (
    some (!eqB r26 r18)) (
    some true)
noncomputable def m6_2 (r18 : Bool) (r26 : Bool) (r54 : Int) (r17 : Policy) (r25 : Policy) : Option Bool :=
  br (ltI r54 0) (
    some true) (
    bnd (m17 r25 r17) fun r60 =>
    br r60 (
      some (!eqB r26 r18)) (
      some true))
noncomputable def m6_3 (r18 : Bool) (r26 : Bool) (r17 : Policy) (r25 : Policy) : Option Bool :=
  bnd (m17 r25 r17) fun r84 =>
  br r84 (
    some (!eqB r26 r18)) (
    some true)
noncomputable def m6 (a0 : Policy) (a1 : Policy) : Option Bool :=
  bnd (m13 a0 1048576) fun r3 =>
  br (ltI r3 0) (
    some true) (
    bnd (m13 a1 r3) fun r7 =>
    br (ltI r7 0) (
      some true) (
      bnd (m15 a0) fun r11 =>
      bnd (m15 a1) fun r14 =>
      bnd (m23 r11 r14) fun p => sel2 p fun r17 r18 =>
      bnd (m24 r11 r14) fun p => sel2 p fun r25 r26 =>
      bnd (m6_1 r18 r26 r17 r25) fun v33 =>
      br v33 (
        some false) (
        bnd (m17 r11 r11) fun r39 =>
        br r39 (
          bnd (m17 r14 r14) fun r45 =>
          br r45 (
            bnd (m25 r11 1) fun p => sel2 p fun r49 r50 =>
            ck (r50.length = r11.terms.length) <|
            bnd (m25 r14 r49) fun p => sel2 p fun r54 r55 =>
            ck (r55.length = r14.terms.length) <|
            bnd (m6_2 r18 r26 r54 r17 r25) fun v64 =>
            br v64 (
              some false) (
              bnd (m25 r25 1) fun p => sel2 p fun r68 r69 =>
              ck (r69.length = r25.terms.length) <|
              bnd (m26 (⟨r69, r25.accept⟩ : Policy) 1) fun r73 =>
              br (ltI r73 0) (
                some false) (
                br (eqI r73 r68) (
                  bnd (m6_3 r18 r26 r17 r25) fun v88 =>
                  br v88 (
                    some false) (
                    some true)) (
                  some false)))) (
            some false)) (
          some false))))
end Go.Pi.Ythidbgihjhkjaaa.ThenPolicy
