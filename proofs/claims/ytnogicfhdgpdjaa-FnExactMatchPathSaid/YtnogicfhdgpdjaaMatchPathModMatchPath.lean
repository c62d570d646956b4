/- What functions of the program answer, and that the law answers true at every input; no condition -/
import Derived.Test.YtnogicfhdgpdjaaPiD
set_option linter.all false
/- Functions of the program, in plain Lean. -/
namespace Go.Pi.Ytnogicfhdgpdjaa.MatchPath
open Go Go.Pi
set_option maxRecDepth 100000
set_option linter.all false
def wfInt (x : Int) : Prop := -9223372036854775808 ≤ x ∧ x ≤ 9223372036854775807
structure ReCell where
  kind : Int
  n : Int
  deriving Inhabited, DecidableEq
def wfReCell (x : ReCell) : Prop := wfInt x.kind ∧ wfInt x.n
def wfLReCell (x : (List ReCell)) : Prop := x.length ≤ 9223372036854775807 ∧ ∀ y ∈ x, wfReCell y
def wfLInt (x : (List Int)) : Prop := x.length ≤ 9223372036854775807 ∧ ∀ y ∈ x, wfInt y
def wfBool (x : Bool) : Prop := True
inductive l6T where
  | mk (kind_ : Int) (n_ : Int) (kids_ : (List l6T))
def l6T.kind_ : l6T → Int
  | .mk x _ _ => x
def l6T.n_ : l6T → Int
  | .mk _ x _ => x
def l6T.kids_ : l6T → (List l6T)
  | .mk _ _ x => x
instance : Inhabited l6T := ⟨.mk 0 0 []⟩
theorem l6T.eta (x : l6T) : x = ⟨x.kind_, x.n_, x.kids_⟩ := by cases x; rfl
def wfl6T (x : l6T) : Prop := True
def wfLl6T (x : (List l6T)) : Prop := x.length ≤ 9223372036854775807 ∧ ∀ y ∈ x, wfl6T y
inductive pattern where
  | mk (cell : ReCell) (parts : (List pattern))
def pattern.cell : pattern → ReCell
  | .mk x _ => x
def pattern.parts : pattern → (List pattern)
  | .mk _ x => x
instance : Inhabited pattern := ⟨.mk (⟨0, 0⟩ : ReCell) []⟩
theorem pattern.eta (x : pattern) : x = ⟨x.cell, x.parts⟩ := by cases x; rfl
def wfpattern (x : pattern) : Prop := True
def wfPpattern (x : pattern) : Prop := True
def wfLPpattern (x : (List pattern)) : Prop := x.length ≤ 9223372036854775807 ∧ ∀ y ∈ x, wfPpattern y
-- f6 laws.szReCellS
noncomputable def m6 (a0 : (List ReCell)) (a1 : Int) : Option Int :=
  br (ltI (wsub .i64 a1 (↑a0.length : Int)) 0) (
    some (-1)) (
    some (wsub .i64 a1 (↑a0.length : Int)))
-- f32 laws.toReCell
noncomputable def m32 (a0 : ReCell) : Option ReCell :=
  some a0
-- f8 laws.toReCellS
noncomputable def m8_1b (a0 : (List ReCell)) (p : (Int × List ReCell)) : Option (Ctl (Int × List ReCell) (List ReCell)) :=
  sel2 p fun s17 s18 =>
  br (ltI s17 (↑a0.length : Int)) (
    bnd (idx a0 s17) fun x20 =>
    bnd (m32 x20) fun r27 =>
    bnd (idx s18 s17) fun x28 =>
    some (.nxt (wadd .i64 s17 1, s18.set s17.toNat r27))) (
    some (.out s18))
noncomputable def m8 (a0 : (List ReCell)) : Option (List ReCell) :=
  ck (0 ≤ (↑a0.length : Int) ∧ (↑a0.length : Int) ≤ (↑a0.length : Int) ∧ (↑a0.length : Int) ≤ 68719476736) <|
  bnd (loopP (m8_1b a0) (0, List.replicate a0.length (⟨0, 0⟩ : ReCell))) fun v35 =>
  some v35
-- f9 laws.toIntS
noncomputable def m9_1b (a0 : (List Int)) (p : (Int × List Int)) : Option (Ctl (Int × List Int) (List Int)) :=
  sel2 p fun s14 s15 =>
  br (ltI s14 (↑a0.length : Int)) (
    bnd (idx a0 s14) fun x17 =>
    bnd (idx s15 s14) fun x22 =>
    some (.nxt (wadd .i64 s14 1, s15.set s14.toNat x17))) (
    some (.out s15))
noncomputable def m9 (a0 : (List Int)) : Option (List Int) :=
  ck (0 ≤ (↑a0.length : Int) ∧ (↑a0.length : Int) ≤ (↑a0.length : Int) ∧ (↑a0.length : Int) ≤ 68719476736) <|
  bnd (loopP (m9_1b a0) (0, List.replicate a0.length 0)) fun v29 =>
  some v29
-- f78 spec.l6Arity
noncomputable def m78_3 (a0 : Int) (p5 : Bool) : Option Bool :=
  br p5 (
    some p5) (
    some (eqI a0 4))
noncomputable def m78_2 (a0 : Int) (p3 : Bool) : Option Bool :=
  br p3 (
    some p3) (
    bnd (m78_3 a0 (eqI a0 3)) fun v9 =>
    some v9)
noncomputable def m78_1 (a0 : Int) (p1 : Bool) : Option Bool :=
  br p1 (
    some p1) (
    bnd (m78_2 a0 (eqI a0 2)) fun v12 =>
    some v12)
noncomputable def m78_4 (a0 : Int) (p17 : Bool) : Option Bool :=
  br p17 (
    some p17) (
    some (eqI a0 6))
noncomputable def m78 (a0 : Int) : Option Int :=
  bnd (m78_1 a0 (eqI a0 1)) fun v15 =>
  br v15 (
    some 0) (
    bnd (m78_4 a0 (eqI a0 5)) fun v21 =>
    br v21 (
      some 2) (
      br (eqI a0 7) (
        some 1) (
        some (-1))))
-- f36 spec.l1In
noncomputable def m36_1 (a0 : Int) (a1 : Int) (a2 : Int) : Option Bool :=
  br (leI a1 a0) (
    some (leI a0 a2)) (
    some false)
noncomputable def m36 (a0 : Int) (a1 : Int) (a2 : Int) : Option Bool :=
  bnd (m36_1 a0 a1 a2) fun v4 =>
  some v4
-- f62 spec.l6Read
noncomputable def m62_1 (rc : (List ReCell) → Int → Option (l6T × Int)) (r9 : Int) (x2 : ReCell) : Option Bool :=
  br (ltI r9 0) (
    some true) (
    br (eqI x2.kind 3) (
      bnd (m36 x2.n 1 65535) fun r14 =>
      br r14 (
        some false) (
        some true)) (
      some (!(eqI x2.n 0))))
noncomputable def m62_2b (rc : (List ReCell) → Int → Option (l6T × Int)) (a0 : (List ReCell)) (p : (Int × Int × List l6T)) : Option (Ctl (Int × Int × List l6T) ((Int × List l6T) ⊕ Unit)) :=
  sel3 p fun s27 s28 s29 =>
  br (ltI 0 s28) (
    bnd (rc a0 s27) fun p => sel2 p fun r33 r34 =>
    br (eqI r34 0) (
      some (.out (.inr ()))) (
      ck (s29.length + 1 ≤ 68719476736) <|
      some (.nxt (r34, wsub .i64 s28 1, s29 ++ [r33])))) (
    some (.out (.inl (s27, s29))))
noncomputable def m62r (rc : (List ReCell) → Int → Option (l6T × Int)) (a0 : (List ReCell)) (a1 : Int) : Option (l6T × Int) :=
  br (leI (↑a0.length : Int) a1) (
    some ((⟨0, 0, []⟩ : l6T), 0)) (
    bnd (idx a0 a1) fun x2 =>
    bnd (m78 x2.kind) fun r9 =>
    bnd (m62_1 rc r9 x2) fun v18 =>
    br v18 (
      some ((⟨0, 0, []⟩ : l6T), 0)) (
      bnd (loopP (m62_2b rc a0) (wadd .i64 a1 1, r9, [])) fun o => selS o (fun p => sel2 p fun v39 v40 =>
        some ((⟨x2.kind, x2.n, v40⟩ : l6T), v39)) (fun _ =>
        some ((⟨0, 0, []⟩ : l6T), 0))))
noncomputable def m62k : Nat → (List ReCell) → Int → Option (l6T × Int)
  | 0 => fun _ _ => none
  | k + 1 => m62r (m62k k)
noncomputable def m62 (a0 : (List ReCell)) (a1 : Int) : Option (l6T × Int) := limO (fun k => m62k k a0 a1)
-- f28 spec.l6Tree
noncomputable def m28_1 (a0 : (List ReCell)) (r5 : Int) : Option Bool :=
  br (ltI 0 r5) (
    some (eqI r5 (↑a0.length : Int))) (
    some false)
noncomputable def m28 (a0 : (List ReCell)) : Option (l6T × Bool) :=
  br (ltI 30 (↑a0.length : Int)) (
    some ((⟨0, 0, []⟩ : l6T), false)) (
    bnd (m62 a0 0) fun p => sel2 p fun r4 r5 =>
    bnd (m28_1 a0 r5) fun v9 =>
    some (r4, v9))
-- f29 spec.l6Path
noncomputable def m29_1b (a0 : (List Int)) (p1 : Int) (s12 : Int) : Option (Ctl Int (Unit ⊕ Unit)) :=
  br (ltI s12 p1) (
    bnd (idx a0 s12) fun x14 =>
    bnd (m36 x14 1 65535) fun r21 =>
    br r21 (
      some (.nxt (wadd .i64 s12 1))) (
      some (.out (.inr ())))) (
    some (.out (.inl ())))
noncomputable def m29 (a0 : (List Int)) : Option Bool :=
  bnd (loopP (m29_1b a0 (↑a0.length : Int)) 0) fun o => selS o (fun _ =>
    some (leI (↑a0.length : Int) 10)) (fun _ =>
    some false)
-- f61 spec.l1Put
noncomputable def m61_3 (a1 : Int) (s11 : Int) (a0 : (List Int)) : Option Bool :=
  br (ltI s11 (↑a0.length : Int)) (
    bnd (idx a0 s11) fun x13 =>
    some (ltI x13 a1)) (
    some false)
noncomputable def m61_1b (a1 : Int) (a0 : (List Int)) (s11 : Int) : Option (Ctl Int Int) :=
  bnd (m61_3 a1 s11 a0) fun v20 =>
  br v20 (
    some (.nxt (wadd .i64 s11 1))) (
    some (.out s11))
noncomputable def m61_4 (a1 : Int) (v24 : Int) (a0 : (List Int)) : Option Bool :=
  br (ltI v24 (↑a0.length : Int)) (
    bnd (idx a0 v24) fun x26 =>
    some (eqI x26 a1)) (
    some false)
noncomputable def m61 (a0 : (List Int)) (a1 : Int) : Option (List Int) :=
  bnd (loopP (m61_1b a1 a0) 0) fun v24 =>
  bnd (m61_4 a1 v24 a0) fun v33 =>
  br v33 (
    some a0) (
    ck (0 ≤ v24 ∧ v24 ≤ (↑a0.length : Int)) <|
    ck ((a0.take v24.toNat).length ≤ 68719476736) <|
    ck ((a0.take v24.toNat).length + 1 ≤ 68719476736) <|
    ck (0 ≤ v24 ∧ v24 ≤ (↑a0.length : Int)) <|
    ck (((a0.take v24.toNat) ++ [a1]).length + ((a0.drop v24.toNat).take (a0.length - v24.toNat)).length ≤ 68719476736) <|
    some (((a0.take v24.toNat) ++ [a1]) ++ ((a0.drop v24.toNat).take (a0.length - v24.toNat))))
-- f31 spec.l6Ends
noncomputable def m31_1 (rc : l6T → (List Int) → Int → Option (List Int)) (a0 : l6T) (p2 : Bool) : Option Bool :=
  br p2 (
    some p2) (
    some (eqI a0.kind_ 4))
noncomputable def m31_3 (rc : l6T → (List Int) → Int → Option (List Int)) (a1 : (List Int)) (a2 : Int) (a0 : l6T) : Option Bool :=
  br (ltI a2 (↑a1.length : Int)) (
    br (eqI a0.kind_ 4) (
      some true) (
      bnd (idx a1 a2) fun x10 =>
      some (eqI x10 a0.n_))) (
    some false)
noncomputable def m31_4b (rc : l6T → (List Int) → Int → Option (List Int)) (p36 : Int) (r35 : (List Int)) (p : (Int × List Int)) : Option (Ctl (Int × List Int) (List Int)) :=
  sel2 p fun s46 s47 =>
  br (ltI s46 p36) (
    bnd (idx r35 s46) fun x49 =>
    bnd (m61 s47 x49) fun r56 =>
    some (.nxt (wadd .i64 s46 1, r56))) (
    some (.out s47))
noncomputable def m31_7b (rc : l6T → (List Int) → Int → Option (List Int)) (p124 : Int) (r123 : (List Int)) (p : (Int × List Int)) : Option (Ctl (Int × List Int) (List Int)) :=
  sel2 p fun s134 s135 =>
  br (ltI s134 p124) (
    bnd (idx r123 s134) fun x137 =>
    bnd (m61 s135 x137) fun r144 =>
    some (.nxt (wadd .i64 s134 1, r144))) (
    some (.out s135))
noncomputable def m31_5b (rc : l6T → (List Int) → Int → Option (List Int)) (a1 : (List Int)) (p69 : Int) (a0 : l6T) (r68 : (List Int)) (p : (Int × List Int)) : Option (Ctl (Int × List Int) (List Int)) :=
  sel2 p fun s108 s109 =>
  br (ltI s108 p69) (
    bnd (idx r68 s108) fun x111 =>
    bnd (idx a0.kids_ 1) fun x116 =>
    bnd (rc x116 a1 x111) fun r123 =>
    bnd (loopP (m31_7b rc (↑r123.length : Int) r123) (0, s109)) fun v147 =>
    some (.nxt (wadd .i64 s108 1, v147))) (
    some (.out s109))
noncomputable def m31_14b (rc : l6T → (List Int) → Int → Option (List Int)) (p296 : Int) (r295 : (List Int)) (p : (Int × List Int)) : Option (Ctl (Int × List Int) (List Int)) :=
  sel2 p fun s306 s307 =>
  br (ltI s306 p296) (
    bnd (idx r295 s306) fun x309 =>
    bnd (m61 s307 x309) fun r316 =>
    some (.nxt (wadd .i64 s306 1, r316))) (
    some (.out s307))
noncomputable def m31_12b (rc : l6T → (List Int) → Int → Option (List Int)) (a1 : (List Int)) (p241 : Int) (a0 : l6T) (s238 : List Int) (p : (Int × List Int)) : Option (Ctl (Int × List Int) (List Int)) :=
  sel2 p fun s280 s281 =>
  br (ltI s280 p241) (
    bnd (idx s238 s280) fun x283 =>
    bnd (idx a0.kids_ 0) fun x288 =>
    bnd (rc x288 a1 x283) fun r295 =>
    bnd (loopP (m31_14b rc (↑r295.length : Int) r295) (0, s281)) fun v319 =>
    some (.nxt (wadd .i64 s280 1, v319))) (
    some (.out s281))
noncomputable def m31_8b (rc : l6T → (List Int) → Int → Option (List Int)) (a1 : (List Int)) (a0 : l6T) (s238 : List Int) : Option (Ctl (List Int) (List Int)) :=
  ck (0 + s238.length ≤ 68719476736) <|
  bnd (loopP (m31_12b rc a1 (↑s238.length : Int) a0 s238) (0, s238)) fun v322 =>
  br (eqI (↑v322.length : Int) (↑s238.length : Int)) (
    some (.out v322)) (
    some (.nxt v322))
noncomputable def m31_2 (rc : l6T → (List Int) → Int → Option (List Int)) (a1 : (List Int)) (a2 : Int) (a0 : l6T) (v6 : Bool) : Option (Unit ⊕ List Int) :=
  br v6 (
    bnd (m31_3 rc a1 a2 a0) fun v17 =>
    br v17 (
      some (.inr [wadd .i64 a2 1])) (
      some (.inl ()))) (
    br (eqI a0.kind_ 6) (
      bnd (idx a0.kids_ 0) fun x20 =>
      bnd (rc x20 a1 a2) fun r27 =>
      bnd (idx a0.kids_ 1) fun x28 =>
      bnd (rc x28 a1 a2) fun r35 =>
      bnd (loopP (m31_4b rc (↑r35.length : Int) r35) (0, r27)) fun v59 =>
      some (.inr v59)) (
      br (eqI a0.kind_ 5) (
        bnd (idx a0.kids_ 0) fun x61 =>
        bnd (rc x61 a1 a2) fun r68 =>
        bnd (loopP (m31_5b rc a1 (↑r68.length : Int) a0 r68) (0, [])) fun v150 =>
        some (.inr v150)) (
        br (eqI a0.kind_ 7) (
          bnd (loopP (m31_8b rc a1 a0) [a2]) fun v326 =>
          some (.inr v326)) (
          some (.inl ())))))
noncomputable def m31r (rc : l6T → (List Int) → Int → Option (List Int)) (a0 : l6T) (a1 : (List Int)) (a2 : Int) : Option (List Int) :=
  br (eqI a0.kind_ 2) (
    some [a2]) (
    bnd (m31_1 rc a0 (eqI a0.kind_ 3)) fun v6 =>
    bnd (m31_2 rc a1 a2 a0 v6) fun o => selS o (fun _ =>
      some []) (fun v329 =>
      some v329))
noncomputable def m31k : Nat → l6T → (List Int) → Int → Option (List Int)
  | 0 => fun _ _ _ => none
  | k + 1 => m31r (m31k k)
noncomputable def m31 (a0 : l6T) (a1 : (List Int)) (a2 : Int) : Option (List Int) := limO (fun k => m31k k a0 a1 a2)
-- f30 spec.l1Has
noncomputable def m30_1b (a1 : Int) (a0 : (List Int)) (p1 : Int) (s9 : Int) : Option (Ctl Int (Unit ⊕ Unit)) :=
  br (ltI s9 p1) (
    bnd (idx a0 s9) fun x11 =>
    br (eqI x11 a1) (
      some (.out (.inr ()))) (
      some (.nxt (wadd .i64 s9 1)))) (
    some (.out (.inl ())))
noncomputable def m30 (a0 : (List Int)) (a1 : Int) : Option Bool :=
  bnd (loopP (m30_1b a1 a0 (↑a0.length : Int)) 0) fun o => selS o (fun _ =>
    some false) (fun _ =>
    some true)
-- f7 spec.MatchPath
noncomputable def m7_1 (a1 : (List Int)) (r4 : Bool) : Option Bool :=
  br r4 (
    bnd (m29 a1) fun r8 =>
    some (!r8)) (
    some true)
noncomputable def m7 (a0 : (List ReCell)) (a1 : (List Int)) : Option (Bool × Bool) :=
  bnd (m28 a0) fun p => sel2 p fun r3 r4 =>
  bnd (m7_1 a1 r4) fun v11 =>
  br v11 (
    some (false, false)) (
    bnd (m31 r3 a1 0) fun r15 =>
    bnd (m30 r15 (↑a1.length : Int)) fun r18 =>
    some (r18, true))
-- f51 impl.within
noncomputable def m51_1 (a0 : Int) (a1 : Int) (a2 : Int) : Option Bool :=
  br (leI a1 a0) (
    some (leI a0 a2)) (
    some false)
noncomputable def m51 (a0 : Int) (a1 : Int) (a2 : Int) : Option Bool :=
  bnd (m51_1 a0 a1 a2) fun v4 =>
  some v4
-- f67 impl.partsOf
noncomputable def m67_3 (a0 : Int) (p5 : Bool) : Option Bool :=
  br p5 (
    some p5) (
    some (eqI a0 4))
noncomputable def m67_2 (a0 : Int) (p3 : Bool) : Option Bool :=
  br p3 (
    some p3) (
    bnd (m67_3 a0 (eqI a0 3)) fun v9 =>
    some v9)
noncomputable def m67_1 (a0 : Int) (p1 : Bool) : Option Bool :=
  br p1 (
    some p1) (
    bnd (m67_2 a0 (eqI a0 2)) fun v12 =>
    some v12)
noncomputable def m67_4 (a0 : Int) (p18 : Bool) : Option Bool :=
  br p18 (
    some p18) (
    some (eqI a0 6))
noncomputable def m67 (a0 : Int) : Option Int :=
  bnd (m67_1 a0 (eqI a0 1)) fun v15 =>
  br v15 (
    some 0) (
    br (eqI a0 7) (
      some 1) (
      bnd (m67_4 a0 (eqI a0 5)) fun v22 =>
      br v22 (
        some 2) (
        some (-1))))
-- f49 impl.sizeAt
noncomputable def m49_1b (a0 : (List ReCell)) (a1 : Int) (p : (Int × Int)) : Option (Ctl (Int × Int) (Unit ⊕ Int)) :=
  sel2 p fun s12 s13 =>
  br (ltI s13 (↑a0.length : Int)) (
    bnd (idx a0 s13) fun x15 =>
    bnd (m67 x15.kind) fun r22 =>
    br (ltI r22 0) (
      some (.out (.inr (-1)))) (
      br (eqI (wadd .i64 s12 (wsub .i64 r22 1)) 0) (
        some (.out (.inr (wsub .i64 (wadd .i64 s13 1) a1)))) (
        some (.nxt (wadd .i64 s12 (wsub .i64 r22 1), wadd .i64 s13 1))))) (
    some (.out (.inl ())))
noncomputable def m49 (a0 : (List ReCell)) (a1 : Int) : Option Int :=
  bnd (loopP (m49_1b a0 a1) (1, a1)) fun o => selS o (fun _ =>
    some (-1)) (fun v27 =>
    some v27)
-- f76 slices.IndexFunc[[]impl.ReCell,impl.ReCell]
noncomputable def m76_1b (a0 : (List ReCell)) (p1 : Int) (a1 : (ReCell → Option Bool)) (s12 : Int) : Option (Ctl Int (Unit ⊕ Int)) :=
  br (ltI s12 p1) (
    bnd (idx a0 s12) fun x14 =>
    bnd (a1 x14) fun r19 =>
    br r19 (
      some (.out (.inr s12))) (
      some (.nxt (wadd .i64 s12 1)))) (
    some (.out (.inl ())))
noncomputable def m76 (a0 : (List ReCell)) (a1 : (ReCell → Option Bool)) : Option Int :=
  bnd (loopP (m76_1b a0 (↑a0.length : Int) a1) 0) fun o => selS o (fun _ =>
    some (-1)) (fun v25 =>
    some v25)
-- f52 slices.ContainsFunc[[]impl.ReCell,impl.ReCell]
noncomputable def m52 (a0 : (List ReCell)) (a1 : (ReCell → Option Bool)) : Option Bool :=
  bnd (m76 a0 a1) fun r3 =>
  some (leI 0 r3)
-- f41 impl.isAsn
noncomputable def m41 (a0 : Int) : Option Bool :=
  bnd (m51 a0 1 65535) fun r3 =>
  some r3
-- f53 impl.GoodRegex$1
noncomputable def m53_1 (a0 : ReCell) : Option Bool :=
  br (eqI a0.kind 3) (
    bnd (m41 a0.n) fun r4 =>
    br r4 (
      some false) (
      some true)) (
    some (!(eqI a0.n 0)))
noncomputable def m53 (a0 : ReCell) : Option Bool :=
  bnd (m53_1 a0) fun v8 =>
  some v8
-- f21 impl.GoodRegex
noncomputable def m21_1 (a0 : (List ReCell)) : Option Bool :=
  bnd (m51 (↑a0.length : Int) 1 30) fun r3 =>
  br r3 (
    bnd (m49 a0 0) fun r7 =>
    some (!(eqI r7 (↑a0.length : Int)))) (
    some true)
noncomputable def m21 (a0 : (List ReCell)) : Option Bool :=
  bnd (m21_1 a0) fun v10 =>
  br v10 (
    some false) (
    bnd (m52 a0 (fun y0 => m53 y0)) fun r14 =>
    some (!r14))
-- f79 slices.IndexFunc[[]int,int]
noncomputable def m79_1b (a0 : (List Int)) (p1 : Int) (a1 : (Int → Option Bool)) (s12 : Int) : Option (Ctl Int (Unit ⊕ Int)) :=
  br (ltI s12 p1) (
    bnd (idx a0 s12) fun x14 =>
    bnd (a1 x14) fun r19 =>
    br r19 (
      some (.out (.inr s12))) (
      some (.nxt (wadd .i64 s12 1)))) (
    some (.out (.inl ())))
noncomputable def m79 (a0 : (List Int)) (a1 : (Int → Option Bool)) : Option Int :=
  bnd (loopP (m79_1b a0 (↑a0.length : Int) a1) 0) fun o => selS o (fun _ =>
    some (-1)) (fun v25 =>
    some v25)
-- f63 slices.ContainsFunc[[]int,int]
noncomputable def m63 (a0 : (List Int)) (a1 : (Int → Option Bool)) : Option Bool :=
  bnd (m79 a0 a1) fun r3 =>
  some (leI 0 r3)
-- f64 impl.isPath$1
noncomputable def m64 (a0 : Int) : Option Bool :=
  bnd (m41 a0) fun r3 =>
  some (!r3)
-- f33 impl.isPath
noncomputable def m33_1 (a0 : (List Int)) : Option Bool :=
  br (leI (↑a0.length : Int) 10) (
    bnd (m63 a0 (fun y0 => m64 y0)) fun r4 =>
    some (!r4)) (
    some false)
noncomputable def m33 (a0 : (List Int)) : Option Bool :=
  bnd (m33_1 a0) fun v7 =>
  some v7
-- f42 impl.treeOf
noncomputable def m42_1b (rc : (List ReCell) → Option (pattern × (List ReCell))) (r9 : Int) (p : (List ReCell × Int × List pattern)) : Option (Ctl (List ReCell × Int × List pattern) (List ReCell × List pattern)) :=
  sel3 p fun s16 s17 s18 =>
  br (ltI s17 r9) (
    bnd (rc s16) fun p => sel2 p fun r22 r23 =>
    ck (s18.length + 1 ≤ 68719476736) <|
    some (.nxt (r23, wadd .i64 s17 1, s18 ++ [r22]))) (
    some (.out (s16, s18)))
noncomputable def m42r (rc : (List ReCell) → Option (pattern × (List ReCell))) (a0 : (List ReCell)) : Option (pattern × (List ReCell)) :=
  bnd (idx a0 0) fun x1 =>
  ck (0 ≤ 1 ∧ 1 ≤ (↑a0.length : Int)) <|
  bnd (m67 x1.kind) fun r9 =>
  bnd (loopP (m42_1b rc r9) (a0.drop 1, 0, [])) fun p => sel2 p fun v27 v28 =>
  some ((⟨x1, v28⟩ : pattern), v27)
noncomputable def m42k : Nat → (List ReCell) → Option (pattern × (List ReCell))
  | 0 => fun _ => none
  | k + 1 => m42r (m42k k)
noncomputable def m42 (a0 : (List ReCell)) : Option (pattern × (List ReCell)) := limO (fun k => m42k k a0)
-- f68 impl.of
noncomputable def m68 (a0 : Int) (a1 : (List pattern)) : Option pattern :=
  some (⟨(⟨a0, 0⟩ : ReCell), a1⟩ : pattern)
-- f58 (*impl.pattern).empty
noncomputable def m58_1 (rc : pattern → Option Bool) (a0 : pattern) (p1 : Bool) : Option Bool :=
  br p1 (
    some p1) (
    some (eqI a0.cell.kind 7))
noncomputable def m58_2 (rc : pattern → Option Bool) (a0 : pattern) : Option Bool :=
  bnd (idx a0.parts 0) fun x8 =>
  bnd (rc x8) fun r15 =>
  br r15 (
    bnd (idx a0.parts 1) fun x17 =>
    bnd (rc x17) fun r24 =>
    some r24) (
    some false)
noncomputable def m58_3 (rc : pattern → Option Bool) (a0 : pattern) : Option Bool :=
  bnd (idx a0.parts 0) fun x29 =>
  bnd (rc x29) fun r36 =>
  br r36 (
    some true) (
    bnd (idx a0.parts 1) fun x38 =>
    bnd (rc x38) fun r45 =>
    some r45)
noncomputable def m58r (rc : pattern → Option Bool) (a0 : pattern) : Option Bool :=
  bnd (m58_1 rc a0 (eqI a0.cell.kind 2)) fun v5 =>
  br v5 (
    some true) (
    br (eqI a0.cell.kind 5) (
      bnd (m58_2 rc a0) fun v27 =>
      some v27) (
      br (eqI a0.cell.kind 6) (
        bnd (m58_3 rc a0) fun v48 =>
        some v48) (
        some false)))
noncomputable def m58k : Nat → pattern → Option Bool
  | 0 => fun _ => none
  | k + 1 => m58r (m58k k)
noncomputable def m58 (a0 : pattern) : Option Bool := limO (fun k => m58k k a0)
-- f43 (*impl.pattern).derive
noncomputable def m43_1 (rc : pattern → Int → Option pattern) (a0 : pattern) (a1 : Int) (p5 : Bool) : Option (Unit ⊕ pattern) :=
  br p5 (
    br (eqI a0.cell.n a1) (
      bnd (m68 2 []) fun r10 =>
      some (.inr r10)) (
      some (.inl ()))) (
    br (eqI a0.cell.kind 6) (
      bnd (idx a0.parts 0) fun x12 =>
      bnd (rc x12 a1) fun r19 =>
      bnd (idx a0.parts 1) fun x20 =>
      bnd (rc x20 a1) fun r27 =>
      bnd (m68 6 [r19, r27]) fun r30 =>
      some (.inr r30)) (
      br (eqI a0.cell.kind 7) (
        bnd (idx a0.parts 0) fun x32 =>
        bnd (rc x32 a1) fun r39 =>
        bnd (m68 5 [r39, a0]) fun r42 =>
        some (.inr r42)) (
        br (eqI a0.cell.kind 5) (
          bnd (idx a0.parts 0) fun x44 =>
          bnd (rc x44 a1) fun r51 =>
          bnd (idx a0.parts 1) fun x52 =>
          bnd (m68 5 [r51, x52]) fun r59 =>
          bnd (m58 x44) fun r62 =>
          br r62 (
            bnd (rc x52 a1) fun r66 =>
            bnd (m68 6 [r59, r66]) fun r69 =>
            some (.inr r69)) (
            some (.inr r59))) (
          some (.inl ())))))
noncomputable def m43r (rc : pattern → Int → Option pattern) (a0 : pattern) (a1 : Int) : Option pattern :=
  br (eqI a0.cell.kind 4) (
    bnd (m68 2 []) fun r4 =>
    some r4) (
    bnd (m43_1 rc a0 a1 (eqI a0.cell.kind 3)) fun o => selS o (fun _ =>
      bnd (m68 1 []) fun r74 =>
      some r74) (fun v75 =>
      some v75))
noncomputable def m43k : Nat → pattern → Int → Option pattern
  | 0 => fun _ _ => none
  | k + 1 => m43r (m43k k)
noncomputable def m43 (a0 : pattern) (a1 : Int) : Option pattern := limO (fun k => m43k k a0 a1)
-- f69 (*impl.pattern).tidy$1
noncomputable def m69 (a0 : Int) (a1 : Int) (a2 : pattern) : Option Bool :=
  bnd (idx a2.parts a0) fun x1 =>
  some (eqI x1.cell.kind a1)
-- f45 (*impl.pattern).cells
noncomputable def m45_1b (rc : pattern → Option (List ReCell)) (a0 : pattern) (p1 : Int) (p : (Int × List ReCell)) : Option (Ctl (Int × List ReCell) (List ReCell)) :=
  sel2 p fun s13 s14 =>
  br (ltI s13 p1) (
    bnd (idx a0.parts s13) fun x16 =>
    bnd (rc x16) fun r23 =>
    ck (s14.length + r23.length ≤ 68719476736) <|
    some (.nxt (wadd .i64 s13 1, s14 ++ r23))) (
    some (.out s14))
noncomputable def m45r (rc : pattern → Option (List ReCell)) (a0 : pattern) : Option (List ReCell) :=
  bnd (loopP (m45_1b rc a0 (↑a0.parts.length : Int)) (0, [a0.cell])) fun v27 =>
  some v27
noncomputable def m45k : Nat → pattern → Option (List ReCell)
  | 0 => fun _ => none
  | k + 1 => m45r (m45k k)
noncomputable def m45 (a0 : pattern) : Option (List ReCell) := limO (fun k => m45k k a0)
-- f70 slices.Equal[[]impl.ReCell,impl.ReCell]
noncomputable def m70_1b (a0 : (List ReCell)) (a1 : (List ReCell)) (p2 : Int) (s15 : Int) : Option (Ctl Int (Unit ⊕ Unit)) :=
  br (ltI s15 p2) (
    bnd (idx a0 s15) fun x17 =>
    bnd (idx a1 s15) fun x22 =>
    br (eqI x17.kind x22.kind && eqI x17.n x22.n) (
      some (.nxt (wadd .i64 s15 1))) (
      some (.out (.inr ())))) (
    some (.out (.inl ())))
noncomputable def m70 (a0 : (List ReCell)) (a1 : (List ReCell)) : Option Bool :=
  br (eqI (↑a0.length : Int) (↑a1.length : Int)) (
    bnd (loopP (m70_1b a0 a1 (↑a0.length : Int)) 0) fun o => selS o (fun _ =>
      some true) (fun _ =>
      some false)) (
    some false)
-- f44 (*impl.pattern).tidy
noncomputable def m44_1b (rc : pattern → Option pattern) (a0 : pattern) (p1 : Int) (p : (Int × List pattern)) : Option (Ctl (Int × List pattern) (List pattern)) :=
  sel2 p fun s11 s12 =>
  br (ltI s11 p1) (
    bnd (idx a0.parts s11) fun x14 =>
    bnd (rc x14) fun r21 =>
    ck (s12.length + 1 ≤ 68719476736) <|
    some (.nxt (wadd .i64 s11 1, s12 ++ [r21]))) (
    some (.out s12))
noncomputable def m44_3 (rc : pattern → Option pattern) (p27 : pattern) : Option Bool :=
  bnd (m69 0 1 p27) fun r31 =>
  br r31 (
    some true) (
    bnd (m69 1 1 p27) fun r35 =>
    some r35)
noncomputable def m44_5 (rc : pattern → Option pattern) (p27 : pattern) : Option Bool :=
  bnd (m69 1 1 p27) fun r74 =>
  br r74 (
    some true) (
    bnd (idx p27.parts 0) fun x76 =>
    bnd (m45 x76) fun r83 =>
    bnd (idx p27.parts 1) fun x84 =>
    bnd (m45 x84) fun r91 =>
    bnd (m70 r83 r91) fun r94 =>
    some r94)
noncomputable def m44_7 (rc : pattern → Option pattern) (p27 : pattern) : Option Bool :=
  bnd (m69 0 1 p27) fun r108 =>
  br r108 (
    some true) (
    bnd (m69 0 2 p27) fun r112 =>
    some r112)
noncomputable def m44_6 (rc : pattern → Option pattern) (p104 : Bool) (p27 : pattern) : Option (Unit ⊕ pattern) :=
  br p104 (
    bnd (m44_7 rc p27) fun v115 =>
    br v115 (
      bnd (m68 2 []) fun r119 =>
      some (.inr r119)) (
      bnd (m69 0 7 p27) fun r122 =>
      br r122 (
        bnd (idx p27.parts 0) fun x124 =>
        some (.inr x124)) (
        some (.inl ())))) (
    some (.inl ()))
noncomputable def m44_4 (rc : pattern → Option pattern) (a0 : pattern) (p61 : Bool) (p27 : pattern) : Option (Unit ⊕ pattern) :=
  br p61 (
    bnd (m69 0 1 p27) fun r65 =>
    br r65 (
      bnd (idx p27.parts 1) fun x67 =>
      some (.inr x67)) (
      bnd (m44_5 rc p27) fun v97 =>
      br v97 (
        bnd (idx p27.parts 0) fun x99 =>
        some (.inr x99)) (
        some (.inl ())))) (
    bnd (m44_6 rc (eqI a0.cell.kind 7) p27) fun o => selS o (fun _ =>
      some (.inl ())) (fun v131 =>
      some (.inr v131)))
noncomputable def m44_2 (rc : pattern → Option pattern) (a0 : pattern) (p26 : Bool) (p27 : pattern) : Option (Unit ⊕ pattern) :=
  br p26 (
    bnd (m44_3 rc p27) fun v38 =>
    br v38 (
      bnd (m68 1 []) fun r42 =>
      some (.inr r42)) (
      bnd (m69 0 2 p27) fun r45 =>
      br r45 (
        bnd (idx p27.parts 1) fun x47 =>
        some (.inr x47)) (
        bnd (m69 1 2 p27) fun r54 =>
        br r54 (
          bnd (idx p27.parts 0) fun x56 =>
          some (.inr x56)) (
          some (.inl ()))))) (
    bnd (m44_4 rc a0 (eqI a0.cell.kind 6) p27) fun o => selS o (fun _ =>
      some (.inl ())) (fun v134 =>
      some (.inr v134)))
noncomputable def m44r (rc : pattern → Option pattern) (a0 : pattern) : Option pattern :=
  bnd (loopP (m44_1b rc a0 (↑a0.parts.length : Int)) (0, [])) fun v25 =>
  bnd (m44_2 rc a0 (eqI a0.cell.kind 5) (⟨a0.cell, v25⟩ : pattern)) fun o => selS o (fun _ =>
    some (⟨a0.cell, v25⟩ : pattern)) (fun v137 =>
    some v137)
noncomputable def m44k : Nat → pattern → Option pattern
  | 0 => fun _ => none
  | k + 1 => m44r (m44k k)
noncomputable def m44 (a0 : pattern) : Option pattern := limO (fun k => m44k k a0)
-- f34 impl.matches
noncomputable def m34_1b (a1 : (List Int)) (p5 : Int) (p : (pattern × Int)) : Option (Ctl (pattern × Int) pattern) :=
  sel2 p fun s18 s19 =>
  br (ltI s19 p5) (
    bnd (idx a1 s19) fun x21 =>
    bnd (m43 s18 x21) fun r28 =>
    bnd (m44 r28) fun r31 =>
    some (.nxt (r31, wadd .i64 s19 1))) (
    some (.out s18))
noncomputable def m34 (a0 : (List ReCell)) (a1 : (List Int)) : Option Bool :=
  bnd (m42 a0) fun p => sel2 p fun r3 r4 =>
  bnd (loopP (m34_1b a1 (↑a1.length : Int)) (r3, 0)) fun v34 =>
  bnd (m58 v34) fun r37 =>
  some r37
-- f10 impl.MatchPath
noncomputable def m10_1 (a0 : (List ReCell)) (a1 : (List Int)) : Option Bool :=
  bnd (m21 a0) fun r3 =>
  br r3 (
    bnd (m33 a1) fun r7 =>
    some (!r7)) (
    some true)
noncomputable def m10 (a0 : (List ReCell)) (a1 : (List Int)) : Option (Bool × Bool) :=
  bnd (m10_1 a0 a1) fun v10 =>
  br v10 (
    some (false, false)) (
    bnd (m34 a0 a1) fun r14 =>
    some (r14, true))
-- f35 laws.eqReCell
noncomputable def m35 (a0 : ReCell) (a1 : ReCell) : Option Bool :=
  br (eqI a0.kind a1.kind) (
    br (eqI a0.n a1.n) (
      some true) (
      some false)) (
    some false)
-- f11 laws.eqReCellS
noncomputable def m11_1b (a0 : (List ReCell)) (a1 : (List ReCell)) (s17 : Int) : Option (Ctl Int (Unit ⊕ Unit)) :=
  br (ltI s17 (↑a0.length : Int)) (
    bnd (idx a0 s17) fun x19 =>
    bnd (idx a1 s17) fun x24 =>
    bnd (m35 x19 x24) fun r31 =>
    br r31 (
      some (.nxt (wadd .i64 s17 1))) (
      some (.out (.inr ())))) (
    some (.out (.inl ())))
noncomputable def m11 (a0 : (List ReCell)) (a1 : (List ReCell)) : Option Bool :=
  br (eqI (↑a0.length : Int) (↑a1.length : Int)) (
    bnd (loopP (m11_1b a0 a1) 0) fun o => selS o (fun _ =>
      some true) (fun _ =>
      some false)) (
    some false)
-- f12 laws.eqIntS
noncomputable def m12_1b (a0 : (List Int)) (a1 : (List Int)) (s14 : Int) : Option (Ctl Int (Unit ⊕ Unit)) :=
  br (ltI s14 (↑a0.length : Int)) (
    bnd (idx a0 s14) fun x16 =>
    bnd (idx a1 s14) fun x21 =>
    br (eqI x16 x21) (
      some (.nxt (wadd .i64 s14 1))) (
      some (.out (.inr ())))) (
    some (.out (.inl ())))
noncomputable def m12 (a0 : (List Int)) (a1 : (List Int)) : Option Bool :=
  br (eqI (↑a0.length : Int) (↑a1.length : Int)) (
    bnd (loopP (m12_1b a0 a1) 0) fun o => selS o (fun _ =>
      some true) (fun _ =>
      some false)) (
    some false)
-- f3 laws.FnExactMatchPath
noncomputable def m3_1 (r14 : Bool) (r15 : Bool) (r22 : Bool) (r23 : Bool) : Option Bool :=
  br (eqB r22 r14) (
    some (!eqB r23 r15)) (
    some true)
noncomputable def m3 (a0 : (List ReCell)) (a1 : (List Int)) : Option Bool :=
  br (ltI 1048576 (↑a1.length : Int)) (
    some true) (
    bnd (m6 a0 1048576) fun r4 =>
    br (ltI r4 0) (
      some true) (
      bnd (m8 a0) fun r8 =>
      bnd (m9 a1) fun r11 =>
      bnd (m7 r8 r11) fun p => sel2 p fun r14 r15 =>
      bnd (m10 r8 r11) fun p => sel2 p fun r22 r23 =>
      bnd (m3_1 r14 r15 r22 r23) fun v27 =>
      br v27 (
        some false) (
        bnd (m11 r8 r8) fun r33 =>
        br r33 (
          bnd (m12 r11 r11) fun r39 =>
          br r39 (
            some true) (
            some false)) (
          some false))))
end Go.Pi.Ytnogicfhdgpdjaa.MatchPath
