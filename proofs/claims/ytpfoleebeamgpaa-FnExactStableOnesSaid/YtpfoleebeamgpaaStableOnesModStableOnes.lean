/- What functions of the program answer, and that the law answers true at every input; no condition -/
import Derived.Test.YtpfoleebeamgpaaPiD
set_option linter.all false
/- Functions of the program, in plain Lean. -/
namespace Go.Pi.Ytpfoleebeamgpaa.StableOnes
open Go Go.Pi
set_option maxRecDepth 100000
set_option linter.all false
def wfInt (x : Int) : Prop := -9223372036854775808 ≤ x ∧ x ≤ 9223372036854775807
def wfLInt (x : (List Int)) : Prop := x.length ≤ 9223372036854775807 ∧ ∀ y ∈ x, wfInt y
def wfLLInt (x : (List (List Int))) : Prop := x.length ≤ 9223372036854775807 ∧ ∀ y ∈ x, wfLInt y
def wfLLLInt (x : (List (List (List Int)))) : Prop := x.length ≤ 9223372036854775807 ∧ ∀ y ∈ x, wfLLInt y
structure Spp where
  ranked : (List (List (List Int)))
  deriving Inhabited, DecidableEq
def wfSpp (x : Spp) : Prop := wfLLLInt x.ranked
def wfBool (x : Bool) : Prop := True
-- f100 laws.szIntS
noncomputable def m100 (a0 : (List Int)) (a1 : Int) : Option Int :=
  br (ltI (wsub .i64 a1 (↑a0.length : Int)) 0) (
    some (-1)) (
    some (wsub .i64 a1 (↑a0.length : Int)))
-- f86 laws.szIntSS
noncomputable def m86_1b (a0 : (List (List Int))) (p : (Int × Int)) : Option (Ctl (Int × Int) (Int ⊕ Unit)) :=
  sel2 p fun s13 s14 =>
  br (ltI s14 (↑a0.length : Int)) (
    bnd (idx a0 s14) fun x16 =>
    bnd (m100 x16 s13) fun r23 =>
    br (ltI r23 0) (
      some (.out (.inr ()))) (
      some (.nxt (r23, wadd .i64 s14 1)))) (
    some (.out (.inl s13)))
noncomputable def m86 (a0 : (List (List Int))) (a1 : Int) : Option Int :=
  br (ltI (wsub .i64 a1 (↑a0.length : Int)) 0) (
    some (-1)) (
    bnd (loopP (m86_1b a0) (wsub .i64 a1 (↑a0.length : Int), 0)) fun o => selS o (fun v27 =>
      some v27) (fun _ =>
      some (-1)))
-- f46 laws.szIntSSS
noncomputable def m46_1b (a0 : (List (List (List Int)))) (p : (Int × Int)) : Option (Ctl (Int × Int) (Int ⊕ Unit)) :=
  sel2 p fun s13 s14 =>
  br (ltI s14 (↑a0.length : Int)) (
    bnd (idx a0 s14) fun x16 =>
    bnd (m86 x16 s13) fun r23 =>
    br (ltI r23 0) (
      some (.out (.inr ()))) (
      some (.nxt (r23, wadd .i64 s14 1)))) (
    some (.out (.inl s13)))
noncomputable def m46 (a0 : (List (List (List Int)))) (a1 : Int) : Option Int :=
  br (ltI (wsub .i64 a1 (↑a0.length : Int)) 0) (
    some (-1)) (
    bnd (loopP (m46_1b a0) (wsub .i64 a1 (↑a0.length : Int), 0)) fun o => selS o (fun v27 =>
      some v27) (fun _ =>
      some (-1)))
-- f13 laws.szSpp
noncomputable def m13 (a0 : Spp) (a1 : Int) : Option Int :=
  bnd (m46 a0.ranked a1) fun r3 =>
  br (ltI r3 0) (
    some (-1)) (
    some r3)
-- f19 laws.toIntS
noncomputable def m19_1b (a0 : (List Int)) (p : (Int × List Int)) : Option (Ctl (Int × List Int) (List Int)) :=
  sel2 p fun s14 s15 =>
  br (ltI s14 (↑a0.length : Int)) (
    bnd (idx a0 s14) fun x17 =>
    bnd (idx s15 s14) fun x22 =>
    some (.nxt (wadd .i64 s14 1, s15.set s14.toNat x17))) (
    some (.out s15))
noncomputable def m19 (a0 : (List Int)) : Option (List Int) :=
  ck (0 ≤ (↑a0.length : Int) ∧ (↑a0.length : Int) ≤ (↑a0.length : Int) ∧ (↑a0.length : Int) ≤ 4294967296) <|
  bnd (loopP (m19_1b a0) (0, List.replicate a0.length 0)) fun v29 =>
  some v29
-- f88 laws.toIntSS
noncomputable def m88_1b (a0 : (List (List Int))) (p : (Int × List (List Int))) : Option (Ctl (Int × List (List Int)) (List (List Int))) :=
  sel2 p fun s17 s18 =>
  br (ltI s17 (↑a0.length : Int)) (
    bnd (idx a0 s17) fun x20 =>
    bnd (m19 x20) fun r27 =>
    bnd (idx s18 s17) fun x28 =>
    some (.nxt (wadd .i64 s17 1, s18.set s17.toNat r27))) (
    some (.out s18))
noncomputable def m88 (a0 : (List (List Int))) : Option (List (List Int)) :=
  ck (0 ≤ (↑a0.length : Int) ∧ (↑a0.length : Int) ≤ (↑a0.length : Int) ∧ (↑a0.length : Int) ≤ 4294967296) <|
  bnd (loopP (m88_1b a0) (0, List.replicate a0.length [])) fun v35 =>
  some v35
-- f50 laws.toIntSSS
noncomputable def m50_1b (a0 : (List (List (List Int)))) (p : (Int × List (List (List Int)))) : Option (Ctl (Int × List (List (List Int))) (List (List (List Int)))) :=
  sel2 p fun s17 s18 =>
  br (ltI s17 (↑a0.length : Int)) (
    bnd (idx a0 s17) fun x20 =>
    bnd (m88 x20) fun r27 =>
    bnd (idx s18 s17) fun x28 =>
    some (.nxt (wadd .i64 s17 1, s18.set s17.toNat r27))) (
    some (.out s18))
noncomputable def m50 (a0 : (List (List (List Int)))) : Option (List (List (List Int))) :=
  ck (0 ≤ (↑a0.length : Int) ∧ (↑a0.length : Int) ≤ (↑a0.length : Int) ∧ (↑a0.length : Int) ≤ 4294967296) <|
  bnd (loopP (m50_1b a0) (0, List.replicate a0.length [])) fun v35 =>
  some v35
-- f15 laws.toSpp
noncomputable def m15 (a0 : Spp) : Option Spp :=
  bnd (m50 a0.ranked) fun r3 =>
  some (⟨r3⟩ : Spp)
-- f47 spec.l1In
noncomputable def m47_1 (a0 : Int) (a1 : Int) (a2 : Int) : Option Bool :=
  br (leI a1 a0) (
    some (leI a0 a2)) (
    some false)
noncomputable def m47 (a0 : Int) (a1 : Int) (a2 : Int) : Option Bool :=
  bnd (m47_1 a0 a1 a2) fun v4 =>
  some v4
-- f87 spec.l1Has
noncomputable def m87_1b (a1 : Int) (a0 : (List Int)) (p1 : Int) (s9 : Int) : Option (Ctl Int (Unit ⊕ Unit)) :=
  br (ltI s9 p1) (
    bnd (idx a0 s9) fun x11 =>
    br (eqI x11 a1) (
      some (.out (.inr ()))) (
      some (.nxt (wadd .i64 s9 1)))) (
    some (.out (.inl ())))
noncomputable def m87 (a0 : (List Int)) (a1 : Int) : Option Bool :=
  bnd (loopP (m87_1b a1 a0 (↑a0.length : Int)) 0) fun o => selS o (fun _ =>
    some false) (fun _ =>
    some true)
-- f79 spec.l10Same
noncomputable def m79_1b (a0 : (List Int)) (a1 : (List Int)) (p2 : Int) (s15 : Int) : Option (Ctl Int (Unit ⊕ Unit)) :=
  br (ltI s15 p2) (
    bnd (idx a0 s15) fun x17 =>
    bnd (idx a1 s15) fun x22 =>
    br (eqI x17 x22) (
      some (.nxt (wadd .i64 s15 1))) (
      some (.out (.inr ())))) (
    some (.out (.inl ())))
noncomputable def m79 (a0 : (List Int)) (a1 : (List Int)) : Option Bool :=
  br (eqI (↑a0.length : Int) (↑a1.length : Int)) (
    bnd (loopP (m79_1b a0 a1 (↑a0.length : Int)) 0) fun o => selS o (fun _ =>
      some true) (fun _ =>
      some false)) (
    some false)
-- f49 spec.l10At
noncomputable def m49_1b (a2 : (List Int)) (x1 : (List (List Int))) (p6 : Int) (s17 : Int) : Option (Ctl Int (Unit ⊕ Int)) :=
  br (ltI s17 p6) (
    bnd (idx x1 s17) fun x19 =>
    bnd (m79 x19 a2) fun r26 =>
    br r26 (
      some (.out (.inr s17))) (
      some (.nxt (wadd .i64 s17 1)))) (
    some (.out (.inl ())))
noncomputable def m49 (a0 : Spp) (a1 : Int) (a2 : (List Int)) : Option Int :=
  bnd (idx a0.ranked (wsub .i64 a1 1)) fun x1 =>
  bnd (loopP (m49_1b a2 x1 (↑x1.length : Int)) 0) fun o => selS o (fun _ =>
    some (-1)) (fun v30 =>
    some v30)
-- f48 spec.l10Path
noncomputable def m48_1 (a1 : Int) (a2 : (List Int)) : Option Bool :=
  br (ltI (↑a2.length : Int) 2) (
    some true) (
    bnd (idx a2 0) fun x3 =>
    br (eqI x3 a1) (
      bnd (idx a2 (wsub .i64 (↑a2.length : Int) 1)) fun x9 =>
      some (!(eqI x9 0))) (
      some true))
noncomputable def m48_4 (a2 : (List Int)) (p18 : Int) (s38 : Int) (x40 : Int) : Option Bool :=
  br (ltI x40 0) (
    some true) (
    br (ltI p18 x40) (
      some true) (
      ck (0 ≤ s38 ∧ s38 ≤ (↑a2.length : Int)) <|
      bnd (m87 (a2.take s38.toNat) x40) fun r50 =>
      br r50 (
        some true) (
        br (eqI x40 0) (
          some (ltI s38 (wsub .i64 (↑a2.length : Int) 1))) (
          some false))))
noncomputable def m48_2b (a2 : (List Int)) (p18 : Int) (p19 : Int) (s38 : Int) : Option (Ctl Int (Unit ⊕ Unit)) :=
  br (ltI s38 p19) (
    bnd (idx a2 s38) fun x40 =>
    bnd (m48_4 a2 p18 s38 x40) fun v55 =>
    br v55 (
      some (.out (.inr ()))) (
      some (.nxt (wadd .i64 s38 1)))) (
    some (.out (.inl ())))
noncomputable def m48_5 (a2 : (List Int)) (a0 : Spp) : Option Bool :=
  br (eqI (↑a2.length : Int) 2) (
    some true) (
    bnd (idx a2 1) fun x60 =>
    ck (0 ≤ 1 ∧ 1 ≤ (↑a2.length : Int)) <|
    bnd (m49 a0 x60 (a2.drop 1)) fun r68 =>
    some (leI 0 r68))
noncomputable def m48 (a0 : Spp) (a1 : Int) (a2 : (List Int)) : Option Bool :=
  bnd (m48_1 a1 a2) fun v16 =>
  br v16 (
    some false) (
    bnd (loopP (m48_2b a2 (↑a0.ranked.length : Int) (↑a2.length : Int)) 0) fun o => selS o (fun _ =>
      bnd (m48_5 a2 a0) fun v71 =>
      some v71) (fun _ =>
      some false))
-- f14 spec.GoodSpp
noncomputable def m14_7 (s51 : Int) (s77 : Int) (x79 : (List Int)) (a0 : Spp) : Option Bool :=
  bnd (m48 a0 (wadd .i64 s51 1) x79) fun r86 =>
  br r86 (
    bnd (m49 a0 (wadd .i64 s51 1) x79) fun r90 =>
    some (!(eqI r90 s77))) (
    some true)
noncomputable def m14_5b (s51 : Int) (a0 : Spp) (x53 : (List (List Int))) (p59 : Int) (s77 : Int) : Option (Ctl Int (Unit ⊕ Unit)) :=
  br (ltI s77 p59) (
    bnd (idx x53 s77) fun x79 =>
    bnd (m14_7 s51 s77 x79 a0) fun v93 =>
    br v93 (
      some (.out (.inr ()))) (
      some (.nxt (wadd .i64 s77 1)))) (
    some (.out (.inl ())))
noncomputable def m14_1b (a0 : Spp) (p5 : Int) (s51 : Int) : Option (Ctl Int (Unit ⊕ Unit)) :=
  br (ltI s51 p5) (
    bnd (idx a0.ranked s51) fun x53 =>
    br (ltI 6 (↑x53.length : Int)) (
      some (.out (.inr ()))) (
      bnd (loopP (m14_5b s51 a0 x53 (↑x53.length : Int)) 0) fun o => selS o (fun _ =>
        some (.nxt (wadd .i64 s51 1))) (fun _ =>
        some (.out (.inr ()))))) (
    some (.out (.inl ())))
noncomputable def m14 (a0 : Spp) : Option Bool :=
  bnd (m47 (↑a0.ranked.length : Int) 1 5) fun r3 =>
  br r3 (
    bnd (loopP (m14_1b a0 (↑a0.ranked.length : Int)) 0) fun o => selS o (fun _ =>
      some true) (fun _ =>
      some false)) (
    some false)
-- f58 spec.l10Best
noncomputable def m58_3 (x50 : (List Int)) (x61 : Int) (a0 : Spp) : Option Bool :=
  br (leI 0 x61) (
    bnd (idx x50 1) fun x67 =>
    bnd (idx a0.ranked (wsub .i64 x67 1)) fun x72 =>
    bnd (idx x72 x61) fun x77 =>
    ck (0 ≤ 1 ∧ 1 ≤ (↑x50.length : Int)) <|
    bnd (m79 x77 (x50.drop 1)) fun r85 =>
    some r85) (
    some false)
noncomputable def m58_1b (a1 : (List Int)) (x1 : (List (List Int))) (p6 : Int) (a0 : Spp) (s48 : Int) : Option (Ctl Int (Unit ⊕ Int)) :=
  br (ltI s48 p6) (
    bnd (idx x1 s48) fun x50 =>
    br (eqI (↑x50.length : Int) 2) (
      some (.out (.inr s48))) (
      bnd (idx x50 1) fun x56 =>
      bnd (idx a1 (wsub .i64 x56 1)) fun x61 =>
      bnd (m58_3 x50 x61 a0) fun v88 =>
      br v88 (
        some (.out (.inr s48))) (
        some (.nxt (wadd .i64 s48 1))))) (
    some (.out (.inl ())))
noncomputable def m58 (a0 : Spp) (a1 : (List Int)) (a2 : Int) : Option Int :=
  bnd (idx a0.ranked (wsub .i64 a2 1)) fun x1 =>
  bnd (loopP (m58_1b a1 x1 (↑x1.length : Int) a0) 0) fun o => selS o (fun _ =>
    some (-1)) (fun v92 =>
    some v92)
-- f61 spec.l10Stable
noncomputable def m61_1b (a1 : (List Int)) (p1 : Int) (a0 : Spp) (s12 : Int) : Option (Ctl Int (Unit ⊕ Unit)) :=
  br (ltI s12 p1) (
    bnd (idx a1 s12) fun x14 =>
    bnd (m58 a0 a1 (wadd .i64 s12 1)) fun r21 =>
    br (eqI r21 x14) (
      some (.nxt (wadd .i64 s12 1))) (
      some (.out (.inr ())))) (
    some (.out (.inl ())))
noncomputable def m61 (a0 : Spp) (a1 : (List Int)) : Option Bool :=
  bnd (loopP (m61_1b a1 (↑a1.length : Int) a0) 0) fun o => selS o (fun _ =>
    some true) (fun _ =>
    some false)
-- f73 spec.l10Ones
noncomputable def m73_1 (rc : Spp → (List Int) → (List (List Int)) → Option (List (List Int))) (r4 : Bool) (a1 : (List Int)) (a2 : (List (List Int))) : Option (List (List Int)) :=
  br r4 (
    ck (0 + a1.length ≤ 4294967296) <|
    ck (a2.length + 1 ≤ 4294967296) <|
    some (a2 ++ [a1])) (
    some a2)
noncomputable def m73_2b (rc : Spp → (List Int) → (List (List Int)) → Option (List (List Int))) (a1 : (List Int)) (a0 : Spp) (p : (Int × List (List Int))) : Option (Ctl (Int × List (List Int)) (List (List Int))) :=
  sel2 p fun s22 s23 =>
  bnd (idx a0.ranked (↑a1.length : Int)) fun x24 =>
  br (ltI s22 (↑x24.length : Int)) (
    ck (0 + a1.length ≤ 4294967296) <|
    ck (a1.length + 1 ≤ 4294967296) <|
    bnd (rc a0 (a1 ++ [s22]) s23) fun r34 =>
    some (.nxt (wadd .i64 s22 1, r34))) (
    some (.out s23))
noncomputable def m73r (rc : Spp → (List Int) → (List (List Int)) → Option (List (List Int))) (a0 : Spp) (a1 : (List Int)) (a2 : (List (List Int))) : Option (List (List Int)) :=
  br (eqI (↑a1.length : Int) (↑a0.ranked.length : Int)) (
    bnd (m61 a0 a1) fun r4 =>
    bnd (m73_1 rc r4 a1 a2) fun v10 =>
    some v10) (
    bnd (loopP (m73_2b rc a1 a0) ((-1), a2)) fun v37 =>
    some v37)
noncomputable def m73k : Nat → Spp → (List Int) → (List (List Int)) → Option (List (List Int))
  | 0 => fun _ _ _ => none
  | k + 1 => m73r (m73k k)
noncomputable def m73 (a0 : Spp) (a1 : (List Int)) (a2 : (List (List Int))) : Option (List (List Int)) := limO (fun k => m73k k a0 a1 a2)
-- f31 spec.StableOnes
noncomputable def m31 (a0 : Spp) : Option ((List (List Int)) × Bool) :=
  bnd (m14 a0) fun r3 =>
  br r3 (
    bnd (m73 a0 [] []) fun r7 =>
    some (r7, true)) (
    some ([], false))
-- f51 impl.within
noncomputable def m51_1 (a0 : Int) (a1 : Int) (a2 : Int) : Option Bool :=
  br (leI a1 a0) (
    some (leI a0 a2)) (
    some false)
noncomputable def m51 (a0 : Int) (a1 : Int) (a2 : Int) : Option Bool :=
  bnd (m51_1 a0 a1 a2) fun v4 =>
  some v4
-- f101 slices.Index[[]int,int]
noncomputable def m101_1b (a0 : (List Int)) (a1 : Int) (p1 : Int) (s9 : Int) : Option (Ctl Int (Unit ⊕ Int)) :=
  br (ltI s9 p1) (
    bnd (idx a0 s9) fun x11 =>
    br (eqI a1 x11) (
      some (.out (.inr s9))) (
      some (.nxt (wadd .i64 s9 1)))) (
    some (.out (.inl ())))
noncomputable def m101 (a0 : (List Int)) (a1 : Int) : Option Int :=
  bnd (loopP (m101_1b a0 a1 (↑a0.length : Int)) 0) fun o => selS o (fun _ =>
    some (-1)) (fun v19 =>
    some v19)
-- f89 slices.Contains[[]int,int]
noncomputable def m89 (a0 : (List Int)) (a1 : Int) : Option Bool :=
  bnd (m101 a0 a1) fun r3 =>
  some (leI 0 r3)
-- f91 slices.IndexFunc[[][]int,[]int]
noncomputable def m91_1b (a0 : (List (List Int))) (p1 : Int) (a1 : ((List Int) → Option Bool)) (s12 : Int) : Option (Ctl Int (Unit ⊕ Int)) :=
  br (ltI s12 p1) (
    bnd (idx a0 s12) fun x14 =>
    bnd (a1 x14) fun r19 =>
    br r19 (
      some (.out (.inr s12))) (
      some (.nxt (wadd .i64 s12 1)))) (
    some (.out (.inl ())))
noncomputable def m91 (a0 : (List (List Int))) (a1 : ((List Int) → Option Bool)) : Option Int :=
  bnd (loopP (m91_1b a0 (↑a0.length : Int) a1) 0) fun o => selS o (fun _ =>
    some (-1)) (fun v25 =>
    some v25)
-- f53 slices.ContainsFunc[[][]int,[]int]
noncomputable def m53 (a0 : (List (List Int))) (a1 : ((List Int) → Option Bool)) : Option Bool :=
  bnd (m91 a0 a1) fun r3 =>
  some (leI 0 r3)
-- f55 slices.Equal[[]int,int]
noncomputable def m55_1b (a0 : (List Int)) (a1 : (List Int)) (p2 : Int) (s15 : Int) : Option (Ctl Int (Unit ⊕ Unit)) :=
  br (ltI s15 p2) (
    bnd (idx a0 s15) fun x17 =>
    bnd (idx a1 s15) fun x22 =>
    br (eqI x17 x22) (
      some (.nxt (wadd .i64 s15 1))) (
      some (.out (.inr ())))) (
    some (.out (.inl ())))
noncomputable def m55 (a0 : (List Int)) (a1 : (List Int)) : Option Bool :=
  br (eqI (↑a0.length : Int) (↑a1.length : Int)) (
    bnd (loopP (m55_1b a0 a1 (↑a0.length : Int)) 0) fun o => selS o (fun _ =>
      some true) (fun _ =>
      some false)) (
    some false)
-- f90 impl.isWay$1
noncomputable def m90 (a0 : (List Int)) (a1 : (List Int)) : Option Bool :=
  ck (0 ≤ 1 ∧ 1 ≤ (↑a1.length : Int)) <|
  bnd (m55 a0 (a1.drop 1)) fun r4 =>
  some r4
-- f52 impl.isWay
noncomputable def m52_1 (a1 : Int) (p1 : Int) (a2 : (List Int)) : Option Bool :=
  br (ltI p1 1) (
    some true) (
    bnd (idx a2 0) fun x3 =>
    br (eqI x3 a1) (
      bnd (idx a2 p1) fun x9 =>
      some (!(eqI x9 0))) (
      some true))
noncomputable def m52_4 (p18 : Int) (s43 : Int) (x45 : Int) (a2 : (List Int)) (a0 : Spp) : Option Bool :=
  br (ltI s43 p18) (
    bnd (m51 x45 1 (↑a0.ranked.length : Int)) fun r53 =>
    br r53 (
      ck (0 ≤ s43 ∧ s43 ≤ (↑a2.length : Int)) <|
      bnd (m89 (a2.take s43.toNat) x45) fun r58 =>
      some r58) (
      some true)) (
    ck (0 ≤ s43 ∧ s43 ≤ (↑a2.length : Int)) <|
    bnd (m89 (a2.take s43.toNat) x45) fun r62 =>
    some r62)
noncomputable def m52_2b (p18 : Int) (a2 : (List Int)) (p19 : Int) (a0 : Spp) (s43 : Int) : Option (Ctl Int (Unit ⊕ Unit)) :=
  br (ltI s43 p19) (
    bnd (idx a2 s43) fun x45 =>
    bnd (m52_4 p18 s43 x45 a2 a0) fun v65 =>
    br v65 (
      some (.out (.inr ()))) (
      some (.nxt (wadd .i64 s43 1)))) (
    some (.out (.inl ())))
noncomputable def m52_5 (p69 : Int) (a0 : Spp) (a2 : (List Int)) : Option Bool :=
  br (eqI p69 1) (
    some true) (
    bnd (idx a2 1) fun x71 =>
    bnd (idx a0.ranked (wsub .i64 x71 1)) fun x76 =>
    bnd (m53 x76 (fun y0 => m90 y0 a2)) fun r83 =>
    some r83)
noncomputable def m52 (a0 : Spp) (a1 : Int) (a2 : (List Int)) : Option Bool :=
  bnd (m52_1 a1 (wsub .i64 (↑a2.length : Int) 1) a2) fun v16 =>
  br v16 (
    some false) (
    bnd (loopP (m52_2b (wsub .i64 (↑a2.length : Int) 1) a2 (↑a2.length : Int) a0) 0) fun o => selS o (fun _ =>
      bnd (m52_5 (wsub .i64 (↑a2.length : Int) 1) a0 a2) fun v86 =>
      some v86) (fun _ =>
      some false))
-- f54 impl.GoodSpp$1
noncomputable def m54 (a0 : (List Int)) (a1 : (List Int)) : Option Bool :=
  bnd (m55 a0 a1) fun r3 =>
  some r3
-- f16 impl.GoodSpp
noncomputable def m16_7 (s55 : Int) (x57 : (List (List Int))) (s83 : Int) (a0 : Spp) (x85 : (List Int)) : Option Bool :=
  br (ltI 6 (↑x85.length : Int)) (
    some true) (
    bnd (m52 a0 (wadd .i64 s55 1) x85) fun r93 =>
    br r93 (
      ck (0 ≤ s83 ∧ s83 ≤ (↑x57.length : Int)) <|
      bnd (m53 (x57.take s83.toNat) (fun y0 => m54 y0 x85)) fun r98 =>
      some r98) (
      some true))
noncomputable def m16_5b (s55 : Int) (x57 : (List (List Int))) (a0 : Spp) (p63 : Int) (s83 : Int) : Option (Ctl Int (Unit ⊕ Unit)) :=
  br (ltI s83 p63) (
    bnd (idx x57 s83) fun x85 =>
    bnd (m16_7 s55 x57 s83 a0 x85) fun v101 =>
    br v101 (
      some (.out (.inr ()))) (
      some (.nxt (wadd .i64 s83 1)))) (
    some (.out (.inl ())))
noncomputable def m16_1b (a0 : Spp) (p5 : Int) (s55 : Int) : Option (Ctl Int (Unit ⊕ Unit)) :=
  br (ltI s55 p5) (
    bnd (idx a0.ranked s55) fun x57 =>
    br (ltI 6 (↑x57.length : Int)) (
      some (.out (.inr ()))) (
      bnd (loopP (m16_5b s55 x57 a0 (↑x57.length : Int)) 0) fun o => selS o (fun _ =>
        some (.nxt (wadd .i64 s55 1))) (fun _ =>
        some (.out (.inr ()))))) (
    some (.out (.inl ())))
noncomputable def m16 (a0 : Spp) : Option Bool :=
  bnd (m51 (↑a0.ranked.length : Int) 1 5) fun r3 =>
  br r3 (
    bnd (loopP (m16_1b a0 (↑a0.ranked.length : Int)) 0) fun o => selS o (fun _ =>
      some true) (fun _ =>
      some false)) (
    some false)
-- f92 impl.bestFor$1
noncomputable def m92_1 (a0 : (List Int)) (a1 : (List Int)) (a2 : Spp) (p7 : Int) : Option Bool :=
  bnd (idx a1 p7) fun x8 =>
  br (leI 0 x8) (
    bnd (idx a2.ranked p7) fun x14 =>
    bnd (idx x14 x8) fun x19 =>
    ck (0 ≤ 1 ∧ 1 ≤ (↑a0.length : Int)) <|
    bnd (m55 x19 (a0.drop 1)) fun r27 =>
    some r27) (
    some false)
noncomputable def m92 (a0 : (List Int)) (a1 : (List Int)) (a2 : Spp) : Option Bool :=
  br (eqI (↑a0.length : Int) 2) (
    some true) (
    bnd (idx a0 1) fun x2 =>
    bnd (m92_1 a0 a1 a2 (wsub .i64 x2 1)) fun v30 =>
    some v30)
-- f60 impl.bestFor
noncomputable def m60 (a0 : Spp) (a1 : (List Int)) (a2 : Int) : Option Int :=
  bnd (idx a0.ranked (wsub .i64 a2 1)) fun x1 =>
  bnd (m91 x1 (fun y0 => m92 y0 a1 a0)) fun r8 =>
  some r8
-- f62 impl.isStable
noncomputable def m62_1b (a1 : (List Int)) (p1 : Int) (a0 : Spp) (s12 : Int) : Option (Ctl Int (Unit ⊕ Unit)) :=
  br (ltI s12 p1) (
    bnd (idx a1 s12) fun x14 =>
    bnd (m60 a0 a1 (wadd .i64 s12 1)) fun r21 =>
    br (eqI r21 x14) (
      some (.nxt (wadd .i64 s12 1))) (
      some (.out (.inr ())))) (
    some (.out (.inl ())))
noncomputable def m62 (a0 : Spp) (a1 : (List Int)) : Option Bool :=
  bnd (loopP (m62_1b a1 (↑a1.length : Int) a0) 0) fun o => selS o (fun _ =>
    some true) (fun _ =>
    some false)
-- f96 slices.Clone[[]int,int]
noncomputable def m96 (a0 : (List Int)) : Option (List Int) :=
  ck (0 + a0.length ≤ 4294967296) <|
  some a0
-- f74 impl.stableFrom
noncomputable def m74_1 (rc : Spp → (List Int) → (List (List Int)) → Option (List (List Int))) (r4 : Bool) (a1 : (List Int)) (a2 : (List (List Int))) : Option (List (List Int)) :=
  br r4 (
    bnd (m96 a1) fun r8 =>
    ck (a2.length + 1 ≤ 4294967296) <|
    some (a2 ++ [r8])) (
    some a2)
noncomputable def m74_2b (rc : Spp → (List Int) → (List (List Int)) → Option (List (List Int))) (p13 : Int) (a1 : (List Int)) (a0 : Spp) (p : (Int × List (List Int))) : Option (Ctl (Int × List (List Int)) (List (List Int))) :=
  sel2 p fun s27 s28 =>
  bnd (idx a0.ranked p13) fun x29 =>
  br (ltI s27 (↑x29.length : Int)) (
    bnd (m96 a1) fun r37 =>
    ck (r37.length + 1 ≤ 4294967296) <|
    bnd (rc a0 (r37 ++ [s27]) s28) fun r41 =>
    some (.nxt (wadd .i64 s27 1, r41))) (
    some (.out s28))
noncomputable def m74r (rc : Spp → (List Int) → (List (List Int)) → Option (List (List Int))) (a0 : Spp) (a1 : (List Int)) (a2 : (List (List Int))) : Option (List (List Int)) :=
  br (eqI (↑a1.length : Int) (↑a0.ranked.length : Int)) (
    bnd (m62 a0 a1) fun r4 =>
    bnd (m74_1 rc r4 a1 a2) fun v12 =>
    some v12) (
    bnd (loopP (m74_2b rc (↑a1.length : Int) a1 a0) ((-1), a2)) fun v44 =>
    some v44)
noncomputable def m74k : Nat → Spp → (List Int) → (List (List Int)) → Option (List (List Int))
  | 0 => fun _ _ _ => none
  | k + 1 => m74r (m74k k)
noncomputable def m74 (a0 : Spp) (a1 : (List Int)) (a2 : (List (List Int))) : Option (List (List Int)) := limO (fun k => m74k k a0 a1 a2)
-- f32 impl.StableOnes
noncomputable def m32 (a0 : Spp) : Option ((List (List Int)) × Bool) :=
  bnd (m16 a0) fun r3 =>
  br r3 (
    bnd (m74 a0 [] []) fun r7 =>
    some (r7, true)) (
    some ([], false))
-- f21 laws.eqIntS
noncomputable def m21_1b (a0 : (List Int)) (a1 : (List Int)) (s14 : Int) : Option (Ctl Int (Unit ⊕ Unit)) :=
  br (ltI s14 (↑a0.length : Int)) (
    bnd (idx a0 s14) fun x16 =>
    bnd (idx a1 s14) fun x21 =>
    br (eqI x16 x21) (
      some (.nxt (wadd .i64 s14 1))) (
      some (.out (.inr ())))) (
    some (.out (.inl ())))
noncomputable def m21 (a0 : (List Int)) (a1 : (List Int)) : Option Bool :=
  br (eqI (↑a0.length : Int) (↑a1.length : Int)) (
    bnd (loopP (m21_1b a0 a1) 0) fun o => selS o (fun _ =>
      some true) (fun _ =>
      some false)) (
    some false)
-- f33 laws.eqIntSS
noncomputable def m33_1b (a0 : (List (List Int))) (a1 : (List (List Int))) (s17 : Int) : Option (Ctl Int (Unit ⊕ Unit)) :=
  br (ltI s17 (↑a0.length : Int)) (
    bnd (idx a0 s17) fun x19 =>
    bnd (idx a1 s17) fun x24 =>
    bnd (m21 x19 x24) fun r31 =>
    br r31 (
      some (.nxt (wadd .i64 s17 1))) (
      some (.out (.inr ())))) (
    some (.out (.inl ())))
noncomputable def m33 (a0 : (List (List Int))) (a1 : (List (List Int))) : Option Bool :=
  br (eqI (↑a0.length : Int) (↑a1.length : Int)) (
    bnd (loopP (m33_1b a0 a1) 0) fun o => selS o (fun _ =>
      some true) (fun _ =>
      some false)) (
    some false)
-- f56 laws.eqIntSSS
noncomputable def m56_1b (a0 : (List (List (List Int)))) (a1 : (List (List (List Int)))) (s17 : Int) : Option (Ctl Int (Unit ⊕ Unit)) :=
  br (ltI s17 (↑a0.length : Int)) (
    bnd (idx a0 s17) fun x19 =>
    bnd (idx a1 s17) fun x24 =>
    bnd (m33 x19 x24) fun r31 =>
    br r31 (
      some (.nxt (wadd .i64 s17 1))) (
      some (.out (.inr ())))) (
    some (.out (.inl ())))
noncomputable def m56 (a0 : (List (List (List Int)))) (a1 : (List (List (List Int)))) : Option Bool :=
  br (eqI (↑a0.length : Int) (↑a1.length : Int)) (
    bnd (loopP (m56_1b a0 a1) 0) fun o => selS o (fun _ =>
      some true) (fun _ =>
      some false)) (
    some false)
-- f17 laws.eqSpp
noncomputable def m17 (a0 : Spp) (a1 : Spp) : Option Bool :=
  bnd (m56 a0.ranked a1.ranked) fun r3 =>
  br r3 (
    some true) (
    some false)
-- f29 laws.markIntS
noncomputable def m29_1b (p : (Int × Int × List Int)) : Option (Ctl (Int × Int × List Int) (Int × List Int)) :=
  sel3 p fun s7 s8 s9 =>
  br (ltI s8 (↑s9.length : Int)) (
    bnd (idx s9 s8) fun x11 =>
    some (.nxt (wadd .i64 s7 1, wadd .i64 s8 1, s9.set s8.toNat s7))) (
    some (.out (s7, s9)))
noncomputable def m29 (a0 : (List Int)) (a1 : Int) : Option (Int × List Int) :=
  bnd (loopP (m29_1b) (a1, 0, a0)) fun p => sel2 p fun v18 v19 =>
  some (v18, v19)
-- f34 laws.markIntSS
noncomputable def m34_1b (p : (Int × Int × List (List Int))) : Option (Ctl (Int × Int × List (List Int)) (Int × List (List Int))) :=
  sel3 p fun s12 s13 s14 =>
  br (ltI s13 (↑s14.length : Int)) (
    bnd (idx s14 s13) fun x16 =>
    bnd (m29 x16 s12) fun p => sel2 p fun r23 r24 =>
    ck (r24.length = x16.length) <|
    some (.nxt (r23, wadd .i64 s13 1, s14.set s13.toNat r24))) (
    some (.out (s12, s14)))
noncomputable def m34 (a0 : (List (List Int))) (a1 : Int) : Option (Int × List (List Int)) :=
  bnd (loopP (m34_1b) (a1, 0, a0)) fun p => sel2 p fun v28 v29 =>
  some (v28, v29)
-- f72 laws.markIntSSS
noncomputable def m72_1b (p : (Int × Int × List (List (List Int)))) : Option (Ctl (Int × Int × List (List (List Int))) (Int × List (List (List Int)))) :=
  sel3 p fun s12 s13 s14 =>
  br (ltI s13 (↑s14.length : Int)) (
    bnd (idx s14 s13) fun x16 =>
    bnd (m34 x16 s12) fun p => sel2 p fun r23 r24 =>
    ck (r24.length = x16.length) <|
    some (.nxt (r23, wadd .i64 s13 1, s14.set s13.toNat r24))) (
    some (.out (s12, s14)))
noncomputable def m72 (a0 : (List (List (List Int)))) (a1 : Int) : Option (Int × List (List (List Int))) :=
  bnd (loopP (m72_1b) (a1, 0, a0)) fun p => sel2 p fun v28 v29 =>
  some (v28, v29)
-- f28 laws.markSpp
noncomputable def m28 (a0 : Spp) (a1 : Int) : Option (Int × List (List (List Int))) :=
  bnd (m72 a0.ranked a1) fun p => sel2 p fun r3 r4 =>
  ck (r4.length = a0.ranked.length) <|
  some (r3, r4)
-- f30 laws.heldIntS
noncomputable def m30_1b (a0 : (List Int)) (p : (Int × Int)) : Option (Ctl (Int × Int) (Int ⊕ Unit)) :=
  sel2 p fun s8 s9 =>
  br (ltI s9 (↑a0.length : Int)) (
    bnd (idx a0 s9) fun x11 =>
    br (eqI x11 s8) (
      some (.nxt (wadd .i64 s8 1, wadd .i64 s9 1))) (
      some (.out (.inr ())))) (
    some (.out (.inl s8)))
noncomputable def m30 (a0 : (List Int)) (a1 : Int) : Option Int :=
  bnd (loopP (m30_1b a0) (a1, 0)) fun o => selS o (fun v19 =>
    some v19) (fun _ =>
    some (-1))
-- f35 laws.heldIntSS
noncomputable def m35_1b (a0 : (List (List Int))) (p : (Int × Int)) : Option (Ctl (Int × Int) (Int ⊕ Unit)) :=
  sel2 p fun s11 s12 =>
  br (ltI s12 (↑a0.length : Int)) (
    bnd (idx a0 s12) fun x14 =>
    bnd (m30 x14 s11) fun r21 =>
    br (ltI r21 0) (
      some (.out (.inr ()))) (
      some (.nxt (r21, wadd .i64 s12 1)))) (
    some (.out (.inl s11)))
noncomputable def m35 (a0 : (List (List Int))) (a1 : Int) : Option Int :=
  bnd (loopP (m35_1b a0) (a1, 0)) fun o => selS o (fun v25 =>
    some v25) (fun _ =>
    some (-1))
-- f8 laws.FnExactStableOnes
noncomputable def m8_1 (r11 : Bool) (r17 : Bool) (r10 : (List (List Int))) (r16 : (List (List Int))) : Option Bool :=
  bnd (m33 r16 r10) fun r20 =>
  br r20 (
    some (!eqB r17 r11)) (
    some true)
noncomputable def m8_2 (r11 : Bool) (r17 : Bool) (r34 : Int) (r10 : (List (List Int))) (r16 : (List (List Int))) : Option Bool :=
  br (ltI r34 0) (
    some true) (
    bnd (m33 r16 r10) fun r40 =>
    br r40 (
      some (!eqB r17 r11)) (
      some true))
noncomputable def m8_3 (r11 : Bool) (r17 : Bool) (r10 : (List (List Int))) (r16 : (List (List Int))) : Option Bool :=
  bnd (m33 r16 r10) fun r62 =>
  br r62 (
    some (!eqB r17 r11)) (
    some true)
noncomputable def m8 (a0 : Spp) : Option Bool :=
  bnd (m13 a0 1048576) fun r3 =>
  br (ltI r3 0) (
    some true) (
    bnd (m15 a0) fun r7 =>
    bnd (m31 r7) fun p => sel2 p fun r10 r11 =>
    bnd (m32 r7) fun p => sel2 p fun r16 r17 =>
    bnd (m8_1 r11 r17 r10 r16) fun v24 =>
    br v24 (
      some false) (
      bnd (m17 r7 r7) fun r30 =>
      br r30 (
        bnd (m28 r7 1) fun p => sel2 p fun r34 r35 =>
        ck (r35.length = r7.ranked.length) <|
        bnd (m8_2 r11 r17 r34 r10 r16) fun v44 =>
        br v44 (
          some false) (
          bnd (m34 r16 1) fun p => sel2 p fun r48 r49 =>
          ck (r49.length = r16.length) <|
          bnd (m35 r49 1) fun r53 =>
          br (ltI r53 0) (
            some false) (
            br (eqI r53 r48) (
              bnd (m8_3 r11 r17 r10 r16) fun v66 =>
              br v66 (
                some false) (
                some true)) (
              some false)))) (
        some false)))
end Go.Pi.Ytpfoleebeamgpaa.StableOnes
