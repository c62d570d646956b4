/- What functions of the program answer, and that the law answers true at every input; no condition -/
import Derived.Test.YtnogicfhdgpdjaaPiD
set_option linter.all false
/- Functions of the program, in plain Lean. -/
namespace Go.Pi.Ytnogicfhdgpdjaa.DeriveBy
open Go Go.Pi
set_option maxRecDepth 100000
set_option linter.all false
def wfInt (x : Int) : Prop := -9223372036854775808 ≤ x ∧ x ≤ 9223372036854775807
structure ReCell where
  kind : Int
  n : Int
  deriving Inhabited, DecidableEq
def wfReCell (x : ReCell) : Prop := wfInt x.kind ∧ wfInt x.n
def wfLReCell (x : (List ReCell)) : Prop := x.length ≤ 9223372036854775807 ∧ ∀ y ∈ x, wfReCell y
def wfBool (x : Bool) : Prop := True
inductive l6T where
  | mk (kind_ : Int) (n_ : Int) (kids_ : (List l6T))
def l6T.kind_ : l6T → Int
  | .mk x _ _ => x
def l6T.n_ : l6T → Int
  | .mk _ x _ => x
def l6T.kids_ : l6T → (List l6T)
  | .mk _ _ x => x
instance : Inhabited l6T := ⟨.mk 0 0 []⟩
theorem l6T.eta (x : l6T) : x = ⟨x.kind_, x.n_, x.kids_⟩ := by cases x; rfl
def wfl6T (x : l6T) : Prop := True
def wfLl6T (x : (List l6T)) : Prop := x.length ≤ 9223372036854775807 ∧ ∀ y ∈ x, wfl6T y
inductive pattern where
  | mk (cell : ReCell) (parts : (List pattern))
def pattern.cell : pattern → ReCell
  | .mk x _ => x
def pattern.parts : pattern → (List pattern)
  | .mk _ x => x
instance : Inhabited pattern := ⟨.mk (⟨0, 0⟩ : ReCell) []⟩
theorem pattern.eta (x : pattern) : x = ⟨x.cell, x.parts⟩ := by cases x; rfl
def wfpattern (x : pattern) : Prop := True
def wfPpattern (x : pattern) : Prop := True
def wfLPpattern (x : (List pattern)) : Prop := x.length ≤ 9223372036854775807 ∧ ∀ y ∈ x, wfPpattern y
-- f6 laws.szReCellS
noncomputable def m6 (a0 : (List ReCell)) (a1 : Int) : Option Int :=
  br (ltI (wsub .i64 a1 (↑a0.length : Int)) 0) (
    some (-1)) (
    some (wsub .i64 a1 (↑a0.length : Int)))
-- f32 laws.toReCell
noncomputable def m32 (a0 : ReCell) : Option ReCell :=
  some a0
-- f8 laws.toReCellS
noncomputable def m8_1b (a0 : (List ReCell)) (p : (Int × List ReCell)) : Option (Ctl (Int × List ReCell) (List ReCell)) :=
  sel2 p fun s17 s18 =>
  br (ltI s17 (↑a0.length : Int)) (
    bnd (idx a0 s17) fun x20 =>
    bnd (m32 x20) fun r27 =>
    bnd (idx s18 s17) fun x28 =>
    some (.nxt (wadd .i64 s17 1, s18.set s17.toNat r27))) (
    some (.out s18))
noncomputable def m8 (a0 : (List ReCell)) : Option (List ReCell) :=
  ck (0 ≤ (↑a0.length : Int) ∧ (↑a0.length : Int) ≤ (↑a0.length : Int) ∧ (↑a0.length : Int) ≤ 4294967296) <|
  bnd (loopP (m8_1b a0) (0, List.replicate a0.length (⟨0, 0⟩ : ReCell))) fun v35 =>
  some v35
-- f78 spec.l6Arity
noncomputable def m78_3 (a0 : Int) (p5 : Bool) : Option Bool :=
  br p5 (
    some p5) (
    some (eqI a0 4))
noncomputable def m78_2 (a0 : Int) (p3 : Bool) : Option Bool :=
  br p3 (
    some p3) (
    bnd (m78_3 a0 (eqI a0 3)) fun v9 =>
    some v9)
noncomputable def m78_1 (a0 : Int) (p1 : Bool) : Option Bool :=
  br p1 (
    some p1) (
    bnd (m78_2 a0 (eqI a0 2)) fun v12 =>
    some v12)
noncomputable def m78_4 (a0 : Int) (p17 : Bool) : Option Bool :=
  br p17 (
    some p17) (
    some (eqI a0 6))
noncomputable def m78 (a0 : Int) : Option Int :=
  bnd (m78_1 a0 (eqI a0 1)) fun v15 =>
  br v15 (
    some 0) (
    bnd (m78_4 a0 (eqI a0 5)) fun v21 =>
    br v21 (
      some 2) (
      br (eqI a0 7) (
        some 1) (
        some (-1))))
-- f36 spec.l1In
noncomputable def m36_1 (a0 : Int) (a1 : Int) (a2 : Int) : Option Bool :=
  br (leI a1 a0) (
    some (leI a0 a2)) (
    some false)
noncomputable def m36 (a0 : Int) (a1 : Int) (a2 : Int) : Option Bool :=
  bnd (m36_1 a0 a1 a2) fun v4 =>
  some v4
-- f62 spec.l6Read
noncomputable def m62_1 (rc : (List ReCell) → Int → Option (l6T × Int)) (r9 : Int) (x2 : ReCell) : Option Bool :=
  br (ltI r9 0) (
    some true) (
    br (eqI x2.kind 3) (
      bnd (m36 x2.n 1 65535) fun r14 =>
      br r14 (
        some false) (
        some true)) (
      some (!(eqI x2.n 0))))
noncomputable def m62_2b (rc : (List ReCell) → Int → Option (l6T × Int)) (a0 : (List ReCell)) (p : (Int × Int × List l6T)) : Option (Ctl (Int × Int × List l6T) ((Int × List l6T) ⊕ Unit)) :=
  sel3 p fun s27 s28 s29 =>
  br (ltI 0 s28) (
    bnd (rc a0 s27) fun p => sel2 p fun r33 r34 =>
    br (eqI r34 0) (
      some (.out (.inr ()))) (
      ck (s29.length + 1 ≤ 4294967296) <|
      some (.nxt (r34, wsub .i64 s28 1, s29 ++ [r33])))) (
    some (.out (.inl (s27, s29))))
noncomputable def m62r (rc : (List ReCell) → Int → Option (l6T × Int)) (a0 : (List ReCell)) (a1 : Int) : Option (l6T × Int) :=
  br (leI (↑a0.length : Int) a1) (
    some ((⟨0, 0, []⟩ : l6T), 0)) (
    bnd (idx a0 a1) fun x2 =>
    bnd (m78 x2.kind) fun r9 =>
    bnd (m62_1 rc r9 x2) fun v18 =>
    br v18 (
      some ((⟨0, 0, []⟩ : l6T), 0)) (
      bnd (loopP (m62_2b rc a0) (wadd .i64 a1 1, r9, [])) fun o => selS o (fun p => sel2 p fun v39 v40 =>
        some ((⟨x2.kind, x2.n, v40⟩ : l6T), v39)) (fun _ =>
        some ((⟨0, 0, []⟩ : l6T), 0))))
noncomputable def m62k : Nat → (List ReCell) → Int → Option (l6T × Int)
  | 0 => fun _ _ => none
  | k + 1 => m62r (m62k k)
noncomputable def m62 (a0 : (List ReCell)) (a1 : Int) : Option (l6T × Int) := limO (fun k => m62k k a0 a1)
-- f28 spec.l6Tree
noncomputable def m28_1 (a0 : (List ReCell)) (r5 : Int) : Option Bool :=
  br (ltI 0 r5) (
    some (eqI r5 (↑a0.length : Int))) (
    some false)
noncomputable def m28 (a0 : (List ReCell)) : Option (l6T × Bool) :=
  br (ltI 30 (↑a0.length : Int)) (
    some ((⟨0, 0, []⟩ : l6T), false)) (
    bnd (m62 a0 0) fun p => sel2 p fun r4 r5 =>
    bnd (m28_1 a0 r5) fun v9 =>
    some (r4, v9))
-- f66 spec.l6Empty
noncomputable def m66_1 (rc : l6T → Option Bool) (a0 : l6T) (p1 : Bool) : Option Bool :=
  br p1 (
    some p1) (
    some (eqI a0.kind_ 7))
noncomputable def m66_2 (rc : l6T → Option Bool) (a0 : l6T) : Option Bool :=
  bnd (idx a0.kids_ 0) fun x8 =>
  bnd (rc x8) fun r15 =>
  br r15 (
    bnd (idx a0.kids_ 1) fun x17 =>
    bnd (rc x17) fun r24 =>
    some r24) (
    some false)
noncomputable def m66_3 (rc : l6T → Option Bool) (a0 : l6T) : Option Bool :=
  bnd (idx a0.kids_ 0) fun x29 =>
  bnd (rc x29) fun r36 =>
  br r36 (
    some true) (
    bnd (idx a0.kids_ 1) fun x38 =>
    bnd (rc x38) fun r45 =>
    some r45)
noncomputable def m66r (rc : l6T → Option Bool) (a0 : l6T) : Option Bool :=
  bnd (m66_1 rc a0 (eqI a0.kind_ 2)) fun v5 =>
  br v5 (
    some true) (
    br (eqI a0.kind_ 5) (
      bnd (m66_2 rc a0) fun v27 =>
      some v27) (
      br (eqI a0.kind_ 6) (
        bnd (m66_3 rc a0) fun v48 =>
        some v48) (
        some false)))
noncomputable def m66k : Nat → l6T → Option Bool
  | 0 => fun _ => none
  | k + 1 => m66r (m66k k)
noncomputable def m66 (a0 : l6T) : Option Bool := limO (fun k => m66k k a0)
-- f39 spec.l6Derive
noncomputable def m39_1 (rc : l6T → Int → Option l6T) (a1 : Int) (a0 : l6T) (p1 : Bool) : Option (Unit ⊕ (Int × List l6T)) :=
  br p1 (
    br (eqI a0.n_ a1) (
      some (.inr (2, []))) (
      some (.inl ()))) (
    br (eqI a0.kind_ 4) (
      some (.inr (2, []))) (
      br (eqI a0.kind_ 6) (
        bnd (idx a0.kids_ 0) fun x6 =>
        bnd (rc x6 a1) fun r13 =>
        bnd (idx a0.kids_ 1) fun x14 =>
        bnd (rc x14 a1) fun r21 =>
        some (.inr (6, [r13, r21]))) (
        br (eqI a0.kind_ 7) (
          bnd (idx a0.kids_ 0) fun x23 =>
          bnd (rc x23 a1) fun r30 =>
          some (.inr (5, [r30, a0]))) (
          br (eqI a0.kind_ 5) (
            bnd (idx a0.kids_ 0) fun x32 =>
            bnd (rc x32 a1) fun r39 =>
            bnd (idx a0.kids_ 1) fun x40 =>
            bnd (m66 x32) fun r47 =>
            br r47 (
              bnd (rc x40 a1) fun r51 =>
              some (.inr (6, [(⟨5, 0, [r39, x40]⟩ : l6T), r51]))) (
              some (.inr (5, [r39, x40])))) (
            some (.inl ()))))))
noncomputable def m39r (rc : l6T → Int → Option l6T) (a0 : l6T) (a1 : Int) : Option l6T :=
  bnd (m39_1 rc a1 a0 (eqI a0.kind_ 3)) fun o => selS o (fun _ =>
    some (⟨1, 0, []⟩ : l6T)) (fun p => sel2 p fun v54 v55 =>
    some (⟨v54, 0, v55⟩ : l6T))
noncomputable def m39k : Nat → l6T → Int → Option l6T
  | 0 => fun _ _ => none
  | k + 1 => m39r (m39k k)
noncomputable def m39 (a0 : l6T) (a1 : Int) : Option l6T := limO (fun k => m39k k a0 a1)
-- f80 spec.l6Same
noncomputable def m80_1 (rc : l6T → l6T → Option Bool) (a0 : l6T) (a1 : l6T) : Option Bool :=
  br (eqI a0.kind_ a1.kind_) (
    some (!(eqI a0.n_ a1.n_))) (
    some true)
noncomputable def m80_2b (rc : l6T → l6T → Option Bool) (p6 : Int) (a0 : l6T) (a1 : l6T) (s22 : Int) : Option (Ctl Int (Unit ⊕ Unit)) :=
  br (ltI s22 p6) (
    bnd (idx a0.kids_ s22) fun x24 =>
    bnd (idx a1.kids_ s22) fun x29 =>
    bnd (rc x24 x29) fun r36 =>
    br r36 (
      some (.nxt (wadd .i64 s22 1))) (
      some (.out (.inr ())))) (
    some (.out (.inl ())))
noncomputable def m80r (rc : l6T → l6T → Option Bool) (a0 : l6T) (a1 : l6T) : Option Bool :=
  bnd (m80_1 rc a0 a1) fun v4 =>
  br v4 (
    some false) (
    bnd (loopP (m80_2b rc (↑a0.kids_.length : Int) a0 a1) 0) fun o => selS o (fun _ =>
      some true) (fun _ =>
      some false))
noncomputable def m80k : Nat → l6T → l6T → Option Bool
  | 0 => fun _ _ => none
  | k + 1 => m80r (m80k k)
noncomputable def m80 (a0 : l6T) (a1 : l6T) : Option Bool := limO (fun k => m80k k a0 a1)
-- f65 spec.l6Make
noncomputable def m65_2 (x3 : l6T) (x8 : l6T) : Option Bool :=
  br (eqI x3.kind_ 1) (
    some true) (
    some (eqI x8.kind_ 1))
noncomputable def m65_4 (x22 : l6T) (x27 : l6T) : Option Bool :=
  br (eqI x27.kind_ 1) (
    some true) (
    bnd (m80 x22 x27) fun r36 =>
    some r36)
noncomputable def m65_6 (x43 : l6T) (p48 : Bool) : Option Bool :=
  br p48 (
    some p48) (
    some (eqI x43.kind_ 2))
noncomputable def m65_5 (a2 : (List l6T)) (p41 : Bool) : Option (Unit ⊕ (Int × Int × List l6T)) :=
  br p41 (
    bnd (idx a2 0) fun x43 =>
    bnd (m65_6 x43 (eqI x43.kind_ 1)) fun v52 =>
    br v52 (
      some (.inr (2, 0, []))) (
      br (eqI x43.kind_ 7) (
        some (.inr (x43.kind_, x43.n_, x43.kids_))) (
        some (.inl ())))) (
    some (.inl ()))
noncomputable def m65_3 (a0 : Int) (a2 : (List l6T)) (p20 : Bool) : Option (Unit ⊕ (Int × Int × List l6T)) :=
  br p20 (
    bnd (idx a2 0) fun x22 =>
    bnd (idx a2 1) fun x27 =>
    br (eqI x22.kind_ 1) (
      some (.inr (x27.kind_, x27.n_, x27.kids_))) (
      bnd (m65_4 x22 x27) fun v39 =>
      br v39 (
        some (.inr (x22.kind_, x22.n_, x22.kids_))) (
        some (.inl ())))) (
    bnd (m65_5 a2 (eqI a0 7)) fun o => selS o (fun _ =>
      some (.inl ())) (fun p => sel3 p fun v57 v58 v59 =>
      some (.inr (v57, v58, v59))))
noncomputable def m65_1 (a0 : Int) (a2 : (List l6T)) (p1 : Bool) : Option (Unit ⊕ (Int × Int × List l6T)) :=
  br p1 (
    bnd (idx a2 0) fun x3 =>
    bnd (idx a2 1) fun x8 =>
    bnd (m65_2 x3 x8) fun v16 =>
    br v16 (
      some (.inr (1, 0, []))) (
      br (eqI x3.kind_ 2) (
        some (.inr (x8.kind_, x8.n_, x8.kids_))) (
        br (eqI x8.kind_ 2) (
          some (.inr (x3.kind_, x3.n_, x3.kids_))) (
          some (.inl ()))))) (
    bnd (m65_3 a0 a2 (eqI a0 6)) fun o => selS o (fun _ =>
      some (.inl ())) (fun p => sel3 p fun v62 v63 v64 =>
      some (.inr (v62, v63, v64))))
noncomputable def m65 (a0 : Int) (a1 : Int) (a2 : (List l6T)) : Option l6T :=
  bnd (m65_1 a0 a2 (eqI a0 5)) fun o => selS o (fun _ =>
    some (⟨a0, a1, a2⟩ : l6T)) (fun p => sel3 p fun v67 v68 v69 =>
    some (⟨v67, v68, v69⟩ : l6T))
-- f38 spec.l6Tidy
noncomputable def m38_1b (rc : l6T → Option l6T) (a0 : l6T) (p1 : Int) (p : (Int × List l6T)) : Option (Ctl (Int × List l6T) (List l6T)) :=
  sel2 p fun s11 s12 =>
  br (ltI s11 p1) (
    bnd (idx a0.kids_ s11) fun x14 =>
    bnd (rc x14) fun r21 =>
    ck (s12.length + 1 ≤ 4294967296) <|
    some (.nxt (wadd .i64 s11 1, s12 ++ [r21]))) (
    some (.out s12))
noncomputable def m38r (rc : l6T → Option l6T) (a0 : l6T) : Option l6T :=
  bnd (loopP (m38_1b rc a0 (↑a0.kids_.length : Int)) (0, [])) fun v25 =>
  bnd (m65 a0.kind_ a0.n_ v25) fun r28 =>
  some r28
noncomputable def m38k : Nat → l6T → Option l6T
  | 0 => fun _ => none
  | k + 1 => m38r (m38k k)
noncomputable def m38 (a0 : l6T) : Option l6T := limO (fun k => m38k k a0)
-- f37 spec.l6Flat
noncomputable def m37_1b (rc : l6T → (List ReCell) → Option (List ReCell)) (a0 : l6T) (p2 : Int) (p : (Int × List ReCell)) : Option (Ctl (Int × List ReCell) (List ReCell)) :=
  sel2 p fun s13 s14 =>
  br (ltI s13 p2) (
    bnd (idx a0.kids_ s13) fun x16 =>
    bnd (rc x16 s14) fun r23 =>
    some (.nxt (wadd .i64 s13 1, r23))) (
    some (.out s14))
noncomputable def m37r (rc : l6T → (List ReCell) → Option (List ReCell)) (a0 : l6T) (a1 : (List ReCell)) : Option (List ReCell) :=
  ck (a1.length + 1 ≤ 4294967296) <|
  bnd (loopP (m37_1b rc a0 (↑a0.kids_.length : Int)) (0, a1 ++ [(⟨a0.kind_, a0.n_⟩ : ReCell)])) fun v26 =>
  some v26
noncomputable def m37k : Nat → l6T → (List ReCell) → Option (List ReCell)
  | 0 => fun _ _ => none
  | k + 1 => m37r (m37k k)
noncomputable def m37 (a0 : l6T) (a1 : (List ReCell)) : Option (List ReCell) := limO (fun k => m37k k a0 a1)
-- f40 spec.GoodRegex
noncomputable def m40 (a0 : (List ReCell)) : Option Bool :=
  bnd (m28 a0) fun p => sel2 p fun r3 r4 =>
  some r4
-- f13 spec.DeriveBy
noncomputable def m13_1 (a1 : Int) (r4 : Bool) : Option Bool :=
  br r4 (
    bnd (m36 a1 1 65535) fun r8 =>
    some (!r8)) (
    some true)
noncomputable def m13 (a0 : (List ReCell)) (a1 : Int) : Option ((List ReCell) × Bool) :=
  bnd (m28 a0) fun p => sel2 p fun r3 r4 =>
  bnd (m13_1 a1 r4) fun v11 =>
  br v11 (
    some ([], false)) (
    bnd (m39 r3 a1) fun r15 =>
    bnd (m38 r15) fun r18 =>
    bnd (m37 r18 []) fun r21 =>
    bnd (m40 r21) fun r24 =>
    br r24 (
      some (r21, true)) (
      some ([], false)))
-- f51 impl.within
noncomputable def m51_1 (a0 : Int) (a1 : Int) (a2 : Int) : Option Bool :=
  br (leI a1 a0) (
    some (leI a0 a2)) (
    some false)
noncomputable def m51 (a0 : Int) (a1 : Int) (a2 : Int) : Option Bool :=
  bnd (m51_1 a0 a1 a2) fun v4 =>
  some v4
-- f67 impl.partsOf
noncomputable def m67_3 (a0 : Int) (p5 : Bool) : Option Bool :=
  br p5 (
    some p5) (
    some (eqI a0 4))
noncomputable def m67_2 (a0 : Int) (p3 : Bool) : Option Bool :=
  br p3 (
    some p3) (
    bnd (m67_3 a0 (eqI a0 3)) fun v9 =>
    some v9)
noncomputable def m67_1 (a0 : Int) (p1 : Bool) : Option Bool :=
  br p1 (
    some p1) (
    bnd (m67_2 a0 (eqI a0 2)) fun v12 =>
    some v12)
noncomputable def m67_4 (a0 : Int) (p18 : Bool) : Option Bool :=
  br p18 (
    some p18) (
    some (eqI a0 6))
noncomputable def m67 (a0 : Int) : Option Int :=
  bnd (m67_1 a0 (eqI a0 1)) fun v15 =>
  br v15 (
    some 0) (
    br (eqI a0 7) (
      some 1) (
      bnd (m67_4 a0 (eqI a0 5)) fun v22 =>
      br v22 (
        some 2) (
        some (-1))))
-- f49 impl.sizeAt
noncomputable def m49_1b (a0 : (List ReCell)) (a1 : Int) (p : (Int × Int)) : Option (Ctl (Int × Int) (Unit ⊕ Int)) :=
  sel2 p fun s12 s13 =>
  br (ltI s13 (↑a0.length : Int)) (
    bnd (idx a0 s13) fun x15 =>
    bnd (m67 x15.kind) fun r22 =>
    br (ltI r22 0) (
      some (.out (.inr (-1)))) (
      br (eqI (wadd .i64 s12 (wsub .i64 r22 1)) 0) (
        some (.out (.inr (wsub .i64 (wadd .i64 s13 1) a1)))) (
        some (.nxt (wadd .i64 s12 (wsub .i64 r22 1), wadd .i64 s13 1))))) (
    some (.out (.inl ())))
noncomputable def m49 (a0 : (List ReCell)) (a1 : Int) : Option Int :=
  bnd (loopP (m49_1b a0 a1) (1, a1)) fun o => selS o (fun _ =>
    some (-1)) (fun v27 =>
    some v27)
-- f76 slices.IndexFunc[[]impl.ReCell,impl.ReCell]
noncomputable def m76_1b (a0 : (List ReCell)) (p1 : Int) (a1 : (ReCell → Option Bool)) (s12 : Int) : Option (Ctl Int (Unit ⊕ Int)) :=
  br (ltI s12 p1) (
    bnd (idx a0 s12) fun x14 =>
    bnd (a1 x14) fun r19 =>
    br r19 (
      some (.out (.inr s12))) (
      some (.nxt (wadd .i64 s12 1)))) (
    some (.out (.inl ())))
noncomputable def m76 (a0 : (List ReCell)) (a1 : (ReCell → Option Bool)) : Option Int :=
  bnd (loopP (m76_1b a0 (↑a0.length : Int) a1) 0) fun o => selS o (fun _ =>
    some (-1)) (fun v25 =>
    some v25)
-- f52 slices.ContainsFunc[[]impl.ReCell,impl.ReCell]
noncomputable def m52 (a0 : (List ReCell)) (a1 : (ReCell → Option Bool)) : Option Bool :=
  bnd (m76 a0 a1) fun r3 =>
  some (leI 0 r3)
-- f41 impl.isAsn
noncomputable def m41 (a0 : Int) : Option Bool :=
  bnd (m51 a0 1 65535) fun r3 =>
  some r3
-- f53 impl.GoodRegex$1
noncomputable def m53_1 (a0 : ReCell) : Option Bool :=
  br (eqI a0.kind 3) (
    bnd (m41 a0.n) fun r4 =>
    br r4 (
      some false) (
      some true)) (
    some (!(eqI a0.n 0)))
noncomputable def m53 (a0 : ReCell) : Option Bool :=
  bnd (m53_1 a0) fun v8 =>
  some v8
-- f21 impl.GoodRegex
noncomputable def m21_1 (a0 : (List ReCell)) : Option Bool :=
  bnd (m51 (↑a0.length : Int) 1 30) fun r3 =>
  br r3 (
    bnd (m49 a0 0) fun r7 =>
    some (!(eqI r7 (↑a0.length : Int)))) (
    some true)
noncomputable def m21 (a0 : (List ReCell)) : Option Bool :=
  bnd (m21_1 a0) fun v10 =>
  br v10 (
    some false) (
    bnd (m52 a0 (fun y0 => m53 y0)) fun r14 =>
    some (!r14))
-- f42 impl.treeOf
noncomputable def m42_1b (rc : (List ReCell) → Option (pattern × (List ReCell))) (r9 : Int) (p : (List ReCell × Int × List pattern)) : Option (Ctl (List ReCell × Int × List pattern) (List ReCell × List pattern)) :=
  sel3 p fun s16 s17 s18 =>
  br (ltI s17 r9) (
    bnd (rc s16) fun p => sel2 p fun r22 r23 =>
    ck (s18.length + 1 ≤ 4294967296) <|
    some (.nxt (r23, wadd .i64 s17 1, s18 ++ [r22]))) (
    some (.out (s16, s18)))
noncomputable def m42r (rc : (List ReCell) → Option (pattern × (List ReCell))) (a0 : (List ReCell)) : Option (pattern × (List ReCell)) :=
  bnd (idx a0 0) fun x1 =>
  ck (0 ≤ 1 ∧ 1 ≤ (↑a0.length : Int)) <|
  bnd (m67 x1.kind) fun r9 =>
  bnd (loopP (m42_1b rc r9) (a0.drop 1, 0, [])) fun p => sel2 p fun v27 v28 =>
  some ((⟨x1, v28⟩ : pattern), v27)
noncomputable def m42k : Nat → (List ReCell) → Option (pattern × (List ReCell))
  | 0 => fun _ => none
  | k + 1 => m42r (m42k k)
noncomputable def m42 (a0 : (List ReCell)) : Option (pattern × (List ReCell)) := limO (fun k => m42k k a0)
-- f68 impl.of
noncomputable def m68 (a0 : Int) (a1 : (List pattern)) : Option pattern :=
  some (⟨(⟨a0, 0⟩ : ReCell), a1⟩ : pattern)
-- f58 (*impl.pattern).empty
noncomputable def m58_1 (rc : pattern → Option Bool) (a0 : pattern) (p1 : Bool) : Option Bool :=
  br p1 (
    some p1) (
    some (eqI a0.cell.kind 7))
noncomputable def m58_2 (rc : pattern → Option Bool) (a0 : pattern) : Option Bool :=
  bnd (idx a0.parts 0) fun x8 =>
  bnd (rc x8) fun r15 =>
  br r15 (
    bnd (idx a0.parts 1) fun x17 =>
    bnd (rc x17) fun r24 =>
    some r24) (
    some false)
noncomputable def m58_3 (rc : pattern → Option Bool) (a0 : pattern) : Option Bool :=
  bnd (idx a0.parts 0) fun x29 =>
  bnd (rc x29) fun r36 =>
  br r36 (
    some true) (
    bnd (idx a0.parts 1) fun x38 =>
    bnd (rc x38) fun r45 =>
    some r45)
noncomputable def m58r (rc : pattern → Option Bool) (a0 : pattern) : Option Bool :=
  bnd (m58_1 rc a0 (eqI a0.cell.kind 2)) fun v5 =>
  br v5 (
    some true) (
    br (eqI a0.cell.kind 5) (
      bnd (m58_2 rc a0) fun v27 =>
      some v27) (
      br (eqI a0.cell.kind 6) (
        bnd (m58_3 rc a0) fun v48 =>
        some v48) (
        some false)))
noncomputable def m58k : Nat → pattern → Option Bool
  | 0 => fun _ => none
  | k + 1 => m58r (m58k k)
noncomputable def m58 (a0 : pattern) : Option Bool := limO (fun k => m58k k a0)
-- f43 (*impl.pattern).derive
noncomputable def m43_1 (rc : pattern → Int → Option pattern) (a0 : pattern) (a1 : Int) (p5 : Bool) : Option (Unit ⊕ pattern) :=
  br p5 (
    br (eqI a0.cell.n a1) (
      bnd (m68 2 []) fun r10 =>
      some (.inr r10)) (
      some (.inl ()))) (
    br (eqI a0.cell.kind 6) (
      bnd (idx a0.parts 0) fun x12 =>
      bnd (rc x12 a1) fun r19 =>
      bnd (idx a0.parts 1) fun x20 =>
      bnd (rc x20 a1) fun r27 =>
      bnd (m68 6 [r19, r27]) fun r30 =>
      some (.inr r30)) (
      br (eqI a0.cell.kind 7) (
        bnd (idx a0.parts 0) fun x32 =>
        bnd (rc x32 a1) fun r39 =>
        bnd (m68 5 [r39, a0]) fun r42 =>
        some (.inr r42)) (
        br (eqI a0.cell.kind 5) (
          bnd (idx a0.parts 0) fun x44 =>
          bnd (rc x44 a1) fun r51 =>
          bnd (idx a0.parts 1) fun x52 =>
          bnd (m68 5 [r51, x52]) fun r59 =>
          bnd (m58 x44) fun r62 =>
          br r62 (
            bnd (rc x52 a1) fun r66 =>
            bnd (m68 6 [r59, r66]) fun r69 =>
            some (.inr r69)) (
            some (.inr r59))) (
          some (.inl ())))))
noncomputable def m43r (rc : pattern → Int → Option pattern) (a0 : pattern) (a1 : Int) : Option pattern :=
  br (eqI a0.cell.kind 4) (
    bnd (m68 2 []) fun r4 =>
    some r4) (
    bnd (m43_1 rc a0 a1 (eqI a0.cell.kind 3)) fun o => selS o (fun _ =>
      bnd (m68 1 []) fun r74 =>
      some r74) (fun v75 =>
      some v75))
noncomputable def m43k : Nat → pattern → Int → Option pattern
  | 0 => fun _ _ => none
  | k + 1 => m43r (m43k k)
noncomputable def m43 (a0 : pattern) (a1 : Int) : Option pattern := limO (fun k => m43k k a0 a1)
-- f69 (*impl.pattern).tidy$1
noncomputable def m69 (a0 : Int) (a1 : Int) (a2 : pattern) : Option Bool :=
  bnd (idx a2.parts a0) fun x1 =>
  some (eqI x1.cell.kind a1)
-- f45 (*impl.pattern).cells
noncomputable def m45_1b (rc : pattern → Option (List ReCell)) (a0 : pattern) (p1 : Int) (p : (Int × List ReCell)) : Option (Ctl (Int × List ReCell) (List ReCell)) :=
  sel2 p fun s13 s14 =>
  br (ltI s13 p1) (
    bnd (idx a0.parts s13) fun x16 =>
    bnd (rc x16) fun r23 =>
    ck (s14.length + r23.length ≤ 4294967296) <|
    some (.nxt (wadd .i64 s13 1, s14 ++ r23))) (
    some (.out s14))
noncomputable def m45r (rc : pattern → Option (List ReCell)) (a0 : pattern) : Option (List ReCell) :=
  bnd (loopP (m45_1b rc a0 (↑a0.parts.length : Int)) (0, [a0.cell])) fun v27 =>
  some v27
noncomputable def m45k : Nat → pattern → Option (List ReCell)
  | 0 => fun _ => none
  | k + 1 => m45r (m45k k)
noncomputable def m45 (a0 : pattern) : Option (List ReCell) := limO (fun k => m45k k a0)
-- f70 slices.Equal[[]impl.ReCell,impl.ReCell]
noncomputable def m70_1b (a0 : (List ReCell)) (a1 : (List ReCell)) (p2 : Int) (s15 : Int) : Option (Ctl Int (Unit ⊕ Unit)) :=
  br (ltI s15 p2) (
    bnd (idx a0 s15) fun x17 =>
    bnd (idx a1 s15) fun x22 =>
    br (eqI x17.kind x22.kind && eqI x17.n x22.n) (
      some (.nxt (wadd .i64 s15 1))) (
      some (.out (.inr ())))) (
    some (.out (.inl ())))
noncomputable def m70 (a0 : (List ReCell)) (a1 : (List ReCell)) : Option Bool :=
  br (eqI (↑a0.length : Int) (↑a1.length : Int)) (
    bnd (loopP (m70_1b a0 a1 (↑a0.length : Int)) 0) fun o => selS o (fun _ =>
      some true) (fun _ =>
      some false)) (
    some false)
-- f44 (*impl.pattern).tidy
noncomputable def m44_1b (rc : pattern → Option pattern) (a0 : pattern) (p1 : Int) (p : (Int × List pattern)) : Option (Ctl (Int × List pattern) (List pattern)) :=
  sel2 p fun s11 s12 =>
  br (ltI s11 p1) (
    bnd (idx a0.parts s11) fun x14 =>
    bnd (rc x14) fun r21 =>
    ck (s12.length + 1 ≤ 4294967296) <|
    some (.nxt (wadd .i64 s11 1, s12 ++ [r21]))) (
    some (.out s12))
noncomputable def m44_3 (rc : pattern → Option pattern) (p27 : pattern) : Option Bool :=
  bnd (m69 0 1 p27) fun r31 =>
  br r31 (
    some true) (
    bnd (m69 1 1 p27) fun r35 =>
    some r35)
noncomputable def m44_5 (rc : pattern → Option pattern) (p27 : pattern) : Option Bool :=
  bnd (m69 1 1 p27) fun r74 =>
  br r74 (
    some true) (
    bnd (idx p27.parts 0) fun x76 =>
    bnd (m45 x76) fun r83 =>
    bnd (idx p27.parts 1) fun x84 =>
    bnd (m45 x84) fun r91 =>
    bnd (m70 r83 r91) fun r94 =>
    some r94)
noncomputable def m44_7 (rc : pattern → Option pattern) (p27 : pattern) : Option Bool :=
  bnd (m69 0 1 p27) fun r108 =>
  br r108 (
    some true) (
    bnd (m69 0 2 p27) fun r112 =>
    some r112)
noncomputable def m44_6 (rc : pattern → Option pattern) (p104 : Bool) (p27 : pattern) : Option (Unit ⊕ pattern) :=
  br p104 (
    bnd (m44_7 rc p27) fun v115 =>
    br v115 (
      bnd (m68 2 []) fun r119 =>
      some (.inr r119)) (
      bnd (m69 0 7 p27) fun r122 =>
      br r122 (
        bnd (idx p27.parts 0) fun x124 =>
        some (.inr x124)) (
        some (.inl ())))) (
    some (.inl ()))
noncomputable def m44_4 (rc : pattern → Option pattern) (a0 : pattern) (p61 : Bool) (p27 : pattern) : Option (Unit ⊕ pattern) :=
  br p61 (
    bnd (m69 0 1 p27) fun r65 =>
    br r65 (
      bnd (idx p27.parts 1) fun x67 =>
      some (.inr x67)) (
      bnd (m44_5 rc p27) fun v97 =>
      br v97 (
        bnd (idx p27.parts 0) fun x99 =>
        some (.inr x99)) (
        some (.inl ())))) (
    bnd (m44_6 rc (eqI a0.cell.kind 7) p27) fun o => selS o (fun _ =>
      some (.inl ())) (fun v131 =>
      some (.inr v131)))
noncomputable def m44_2 (rc : pattern → Option pattern) (a0 : pattern) (p26 : Bool) (p27 : pattern) : Option (Unit ⊕ pattern) :=
  br p26 (
    bnd (m44_3 rc p27) fun v38 =>
    br v38 (
      bnd (m68 1 []) fun r42 =>
      some (.inr r42)) (
      bnd (m69 0 2 p27) fun r45 =>
      br r45 (
        bnd (idx p27.parts 1) fun x47 =>
        some (.inr x47)) (
        bnd (m69 1 2 p27) fun r54 =>
        br r54 (
          bnd (idx p27.parts 0) fun x56 =>
          some (.inr x56)) (
          some (.inl ()))))) (
    bnd (m44_4 rc a0 (eqI a0.cell.kind 6) p27) fun o => selS o (fun _ =>
      some (.inl ())) (fun v134 =>
      some (.inr v134)))
noncomputable def m44r (rc : pattern → Option pattern) (a0 : pattern) : Option pattern :=
  bnd (loopP (m44_1b rc a0 (↑a0.parts.length : Int)) (0, [])) fun v25 =>
  bnd (m44_2 rc a0 (eqI a0.cell.kind 5) (⟨a0.cell, v25⟩ : pattern)) fun o => selS o (fun _ =>
    some (⟨a0.cell, v25⟩ : pattern)) (fun v137 =>
    some v137)
noncomputable def m44k : Nat → pattern → Option pattern
  | 0 => fun _ => none
  | k + 1 => m44r (m44k k)
noncomputable def m44 (a0 : pattern) : Option pattern := limO (fun k => m44k k a0)
-- f14 impl.DeriveBy
noncomputable def m14_1 (a0 : (List ReCell)) (a1 : Int) : Option Bool :=
  bnd (m21 a0) fun r3 =>
  br r3 (
    bnd (m41 a1) fun r7 =>
    some (!r7)) (
    some true)
noncomputable def m14 (a0 : (List ReCell)) (a1 : Int) : Option ((List ReCell) × Bool) :=
  bnd (m14_1 a0 a1) fun v10 =>
  br v10 (
    some ([], false)) (
    bnd (m42 a0) fun p => sel2 p fun r14 r15 =>
    bnd (m43 r14 a1) fun r18 =>
    bnd (m44 r18) fun r21 =>
    bnd (m45 r21) fun r24 =>
    bnd (m21 r24) fun r27 =>
    br r27 (
      some (r24, true)) (
      some ([], false)))
-- f35 laws.eqReCell
noncomputable def m35 (a0 : ReCell) (a1 : ReCell) : Option Bool :=
  br (eqI a0.kind a1.kind) (
    br (eqI a0.n a1.n) (
      some true) (
      some false)) (
    some false)
-- f11 laws.eqReCellS
noncomputable def m11_1b (a0 : (List ReCell)) (a1 : (List ReCell)) (s17 : Int) : Option (Ctl Int (Unit ⊕ Unit)) :=
  br (ltI s17 (↑a0.length : Int)) (
    bnd (idx a0 s17) fun x19 =>
    bnd (idx a1 s17) fun x24 =>
    bnd (m35 x19 x24) fun r31 =>
    br r31 (
      some (.nxt (wadd .i64 s17 1))) (
      some (.out (.inr ())))) (
    some (.out (.inl ())))
noncomputable def m11 (a0 : (List ReCell)) (a1 : (List ReCell)) : Option Bool :=
  br (eqI (↑a0.length : Int) (↑a1.length : Int)) (
    bnd (loopP (m11_1b a0 a1) 0) fun o => selS o (fun _ =>
      some true) (fun _ =>
      some false)) (
    some false)
-- f15 laws.markReCellS
noncomputable def m15_1b (p : (Int × Int × List ReCell)) : Option (Ctl (Int × Int × List ReCell) (Int × List ReCell)) :=
  sel3 p fun s7 s8 s9 =>
  br (ltI s8 (↑s9.length : Int)) (
    bnd (idx s9 s8) fun x11 =>
    some (.nxt (wadd .i64 (wadd .i64 s7 1) 1, wadd .i64 s8 1, (s9.set s8.toNat (⟨s7, x11.n⟩ : ReCell)).set s8.toNat (⟨s7, wadd .i64 s7 1⟩ : ReCell)))) (
    some (.out (s7, s9)))
noncomputable def m15 (a0 : (List ReCell)) (a1 : Int) : Option (Int × List ReCell) :=
  bnd (loopP (m15_1b) (a1, 0, a0)) fun p => sel2 p fun v18 v19 =>
  some (v18, v19)
-- f16 laws.heldReCellS
noncomputable def m16_1b (a0 : (List ReCell)) (p : (Int × Int)) : Option (Ctl (Int × Int) (Int ⊕ Unit)) :=
  sel2 p fun s9 s10 =>
  br (ltI s10 (↑a0.length : Int)) (
    bnd (idx a0 s10) fun x12 =>
    br (eqI x12.kind s9) (
      br (eqI x12.n (wadd .i64 s9 1)) (
        some (.nxt (wadd .i64 (wadd .i64 s9 1) 1, wadd .i64 s10 1))) (
        some (.out (.inr ())))) (
      some (.out (.inr ())))) (
    some (.out (.inl s9)))
noncomputable def m16 (a0 : (List ReCell)) (a1 : Int) : Option Int :=
  bnd (loopP (m16_1b a0) (a1, 0)) fun o => selS o (fun v21 =>
    some v21) (fun _ =>
    some (-1))
-- f4 laws.FnExactDeriveBy
noncomputable def m4_1 (r11 : Bool) (r17 : Bool) (r10 : (List ReCell)) (r16 : (List ReCell)) : Option Bool :=
  bnd (m11 r16 r10) fun r20 =>
  br r20 (
    some (!eqB r17 r11)) (
    some true)
noncomputable def m4_2 (r11 : Bool) (r17 : Bool) (r34 : Int) (r10 : (List ReCell)) (r16 : (List ReCell)) : Option Bool :=
  br (ltI r34 0) (
    some true) (
    bnd (m11 r16 r10) fun r40 =>
    br r40 (
      some (!eqB r17 r11)) (
      some true))
noncomputable def m4_3 (r11 : Bool) (r17 : Bool) (r10 : (List ReCell)) (r16 : (List ReCell)) : Option Bool :=
  bnd (m11 r16 r10) fun r62 =>
  br r62 (
    some (!eqB r17 r11)) (
    some true)
noncomputable def m4 (a0 : (List ReCell)) (a1 : Int) : Option Bool :=
  bnd (m6 a0 1048576) fun r3 =>
  br (ltI r3 0) (
    some true) (
    bnd (m8 a0) fun r7 =>
    bnd (m13 r7 a1) fun p => sel2 p fun r10 r11 =>
    bnd (m14 r7 a1) fun p => sel2 p fun r16 r17 =>
    bnd (m4_1 r11 r17 r10 r16) fun v24 =>
    br v24 (
      some false) (
      bnd (m11 r7 r7) fun r30 =>
      br r30 (
        bnd (m15 r7 1) fun p => sel2 p fun r34 r35 =>
        ck (r35.length = r7.length) <|
        bnd (m4_2 r11 r17 r34 r10 r16) fun v44 =>
        br v44 (
          some false) (
          bnd (m15 r16 1) fun p => sel2 p fun r48 r49 =>
          ck (r49.length = r16.length) <|
          bnd (m16 r49 1) fun r53 =>
          br (ltI r53 0) (
            some false) (
            br (eqI r53 r48) (
              bnd (m4_3 r11 r17 r10 r16) fun v66 =>
              br v66 (
                some false) (
                some true)) (
              some false)))) (
        some false)))
end Go.Pi.Ytnogicfhdgpdjaa.DeriveBy
