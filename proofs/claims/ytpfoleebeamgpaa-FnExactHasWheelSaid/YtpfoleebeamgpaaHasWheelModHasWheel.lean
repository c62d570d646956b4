/- What functions of the program answer, and that the law answers true at every input; no condition -/
import Derived.Test.YtpfoleebeamgpaaPiC
set_option linter.all false
/- Functions of the program, in plain Lean. -/
namespace Go.Pi.Ytpfoleebeamgpaa.HasWheel
open Go Go.Pi
set_option maxRecDepth 100000
set_option linter.all false
def wfInt (x : Int) : Prop := -9223372036854775808 ≤ x ∧ x ≤ 9223372036854775807
def wfLInt (x : (List Int)) : Prop := x.length ≤ 9223372036854775807 ∧ ∀ y ∈ x, wfInt y
def wfLLInt (x : (List (List Int))) : Prop := x.length ≤ 9223372036854775807 ∧ ∀ y ∈ x, wfLInt y
def wfLLLInt (x : (List (List (List Int)))) : Prop := x.length ≤ 9223372036854775807 ∧ ∀ y ∈ x, wfLLInt y
structure Spp where
  ranked : (List (List (List Int)))
  deriving Inhabited, DecidableEq
def wfSpp (x : Spp) : Prop := wfLLLInt x.ranked
def wfBool (x : Bool) : Prop := True
structure l10Pair where
  node : Int
  path : Int
  deriving Inhabited, DecidableEq
def wfl10Pair (x : l10Pair) : Prop := wfInt x.node ∧ wfInt x.path
def wfLl10Pair (x : (List l10Pair)) : Prop := x.length ≤ 9223372036854775807 ∧ ∀ y ∈ x, wfl10Pair y
structure turn where
  node : Int
  way : Int
  deriving Inhabited, DecidableEq
def wfturn (x : turn) : Prop := wfInt x.node ∧ wfInt x.way
def wfLturn (x : (List turn)) : Prop := x.length ≤ 9223372036854775807 ∧ ∀ y ∈ x, wfturn y
-- f100 laws.szIntS
noncomputable def m100 (a0 : (List Int)) (a1 : Int) : Option Int :=
  br (ltI (wsub .i64 a1 (↑a0.length : Int)) 0) (
    some (-1)) (
    some (wsub .i64 a1 (↑a0.length : Int)))
-- f86 laws.szIntSS
noncomputable def m86_1b (a0 : (List (List Int))) (p : (Int × Int)) : Option (Ctl (Int × Int) (Int ⊕ Unit)) :=
  sel2 p fun s13 s14 =>
  br (ltI s14 (↑a0.length : Int)) (
    bnd (idx a0 s14) fun x16 =>
    bnd (m100 x16 s13) fun r23 =>
    br (ltI r23 0) (
      some (.out (.inr ()))) (
      some (.nxt (r23, wadd .i64 s14 1)))) (
    some (.out (.inl s13)))
noncomputable def m86 (a0 : (List (List Int))) (a1 : Int) : Option Int :=
  br (ltI (wsub .i64 a1 (↑a0.length : Int)) 0) (
    some (-1)) (
    bnd (loopP (m86_1b a0) (wsub .i64 a1 (↑a0.length : Int), 0)) fun o => selS o (fun v27 =>
      some v27) (fun _ =>
      some (-1)))
-- f46 laws.szIntSSS
noncomputable def m46_1b (a0 : (List (List (List Int)))) (p : (Int × Int)) : Option (Ctl (Int × Int) (Int ⊕ Unit)) :=
  sel2 p fun s13 s14 =>
  br (ltI s14 (↑a0.length : Int)) (
    bnd (idx a0 s14) fun x16 =>
    bnd (m86 x16 s13) fun r23 =>
    br (ltI r23 0) (
      some (.out (.inr ()))) (
      some (.nxt (r23, wadd .i64 s14 1)))) (
    some (.out (.inl s13)))
noncomputable def m46 (a0 : (List (List (List Int)))) (a1 : Int) : Option Int :=
  br (ltI (wsub .i64 a1 (↑a0.length : Int)) 0) (
    some (-1)) (
    bnd (loopP (m46_1b a0) (wsub .i64 a1 (↑a0.length : Int), 0)) fun o => selS o (fun v27 =>
      some v27) (fun _ =>
      some (-1)))
-- f13 laws.szSpp
noncomputable def m13 (a0 : Spp) (a1 : Int) : Option Int :=
  bnd (m46 a0.ranked a1) fun r3 =>
  br (ltI r3 0) (
    some (-1)) (
    some r3)
-- f19 laws.toIntS
noncomputable def m19_1b (a0 : (List Int)) (p : (Int × List Int)) : Option (Ctl (Int × List Int) (List Int)) :=
  sel2 p fun s14 s15 =>
  br (ltI s14 (↑a0.length : Int)) (
    bnd (idx a0 s14) fun x17 =>
    bnd (idx s15 s14) fun x22 =>
    some (.nxt (wadd .i64 s14 1, s15.set s14.toNat x17))) (
    some (.out s15))
noncomputable def m19 (a0 : (List Int)) : Option (List Int) :=
  ck (0 ≤ (↑a0.length : Int) ∧ (↑a0.length : Int) ≤ (↑a0.length : Int) ∧ (↑a0.length : Int) ≤ 4294967296) <|
  bnd (loopP (m19_1b a0) (0, List.replicate a0.length 0)) fun v29 =>
  some v29
-- f88 laws.toIntSS
noncomputable def m88_1b (a0 : (List (List Int))) (p : (Int × List (List Int))) : Option (Ctl (Int × List (List Int)) (List (List Int))) :=
  sel2 p fun s17 s18 =>
  br (ltI s17 (↑a0.length : Int)) (
    bnd (idx a0 s17) fun x20 =>
    bnd (m19 x20) fun r27 =>
    bnd (idx s18 s17) fun x28 =>
    some (.nxt (wadd .i64 s17 1, s18.set s17.toNat r27))) (
    some (.out s18))
noncomputable def m88 (a0 : (List (List Int))) : Option (List (List Int)) :=
  ck (0 ≤ (↑a0.length : Int) ∧ (↑a0.length : Int) ≤ (↑a0.length : Int) ∧ (↑a0.length : Int) ≤ 4294967296) <|
  bnd (loopP (m88_1b a0) (0, List.replicate a0.length [])) fun v35 =>
  some v35
-- f50 laws.toIntSSS
noncomputable def m50_1b (a0 : (List (List (List Int)))) (p : (Int × List (List (List Int)))) : Option (Ctl (Int × List (List (List Int))) (List (List (List Int)))) :=
  sel2 p fun s17 s18 =>
  br (ltI s17 (↑a0.length : Int)) (
    bnd (idx a0 s17) fun x20 =>
    bnd (m88 x20) fun r27 =>
    bnd (idx s18 s17) fun x28 =>
    some (.nxt (wadd .i64 s17 1, s18.set s17.toNat r27))) (
    some (.out s18))
noncomputable def m50 (a0 : (List (List (List Int)))) : Option (List (List (List Int))) :=
  ck (0 ≤ (↑a0.length : Int) ∧ (↑a0.length : Int) ≤ (↑a0.length : Int) ∧ (↑a0.length : Int) ≤ 4294967296) <|
  bnd (loopP (m50_1b a0) (0, List.replicate a0.length [])) fun v35 =>
  some v35
-- f15 laws.toSpp
noncomputable def m15 (a0 : Spp) : Option Spp :=
  bnd (m50 a0.ranked) fun r3 =>
  some (⟨r3⟩ : Spp)
-- f47 spec.l1In
noncomputable def m47_1 (a0 : Int) (a1 : Int) (a2 : Int) : Option Bool :=
  br (leI a1 a0) (
    some (leI a0 a2)) (
    some false)
noncomputable def m47 (a0 : Int) (a1 : Int) (a2 : Int) : Option Bool :=
  bnd (m47_1 a0 a1 a2) fun v4 =>
  some v4
-- f87 spec.l1Has
noncomputable def m87_1b (a1 : Int) (a0 : (List Int)) (p1 : Int) (s9 : Int) : Option (Ctl Int (Unit ⊕ Unit)) :=
  br (ltI s9 p1) (
    bnd (idx a0 s9) fun x11 =>
    br (eqI x11 a1) (
      some (.out (.inr ()))) (
      some (.nxt (wadd .i64 s9 1)))) (
    some (.out (.inl ())))
noncomputable def m87 (a0 : (List Int)) (a1 : Int) : Option Bool :=
  bnd (loopP (m87_1b a1 a0 (↑a0.length : Int)) 0) fun o => selS o (fun _ =>
    some false) (fun _ =>
    some true)
-- f79 spec.l10Same
noncomputable def m79_1b (a0 : (List Int)) (a1 : (List Int)) (p2 : Int) (s15 : Int) : Option (Ctl Int (Unit ⊕ Unit)) :=
  br (ltI s15 p2) (
    bnd (idx a0 s15) fun x17 =>
    bnd (idx a1 s15) fun x22 =>
    br (eqI x17 x22) (
      some (.nxt (wadd .i64 s15 1))) (
      some (.out (.inr ())))) (
    some (.out (.inl ())))
noncomputable def m79 (a0 : (List Int)) (a1 : (List Int)) : Option Bool :=
  br (eqI (↑a0.length : Int) (↑a1.length : Int)) (
    bnd (loopP (m79_1b a0 a1 (↑a0.length : Int)) 0) fun o => selS o (fun _ =>
      some true) (fun _ =>
      some false)) (
    some false)
-- f49 spec.l10At
noncomputable def m49_1b (a2 : (List Int)) (x1 : (List (List Int))) (p6 : Int) (s17 : Int) : Option (Ctl Int (Unit ⊕ Int)) :=
  br (ltI s17 p6) (
    bnd (idx x1 s17) fun x19 =>
    bnd (m79 x19 a2) fun r26 =>
    br r26 (
      some (.out (.inr s17))) (
      some (.nxt (wadd .i64 s17 1)))) (
    some (.out (.inl ())))
noncomputable def m49 (a0 : Spp) (a1 : Int) (a2 : (List Int)) : Option Int :=
  bnd (idx a0.ranked (wsub .i64 a1 1)) fun x1 =>
  bnd (loopP (m49_1b a2 x1 (↑x1.length : Int)) 0) fun o => selS o (fun _ =>
    some (-1)) (fun v30 =>
    some v30)
-- f48 spec.l10Path
noncomputable def m48_1 (a1 : Int) (a2 : (List Int)) : Option Bool :=
  br (ltI (↑a2.length : Int) 2) (
    some true) (
    bnd (idx a2 0) fun x3 =>
    br (eqI x3 a1) (
      bnd (idx a2 (wsub .i64 (↑a2.length : Int) 1)) fun x9 =>
      some (!(eqI x9 0))) (
      some true))
noncomputable def m48_4 (a2 : (List Int)) (p18 : Int) (s38 : Int) (x40 : Int) : Option Bool :=
  br (ltI x40 0) (
    some true) (
    br (ltI p18 x40) (
      some true) (
      ck (0 ≤ s38 ∧ s38 ≤ (↑a2.length : Int)) <|
      bnd (m87 (a2.take s38.toNat) x40) fun r50 =>
      br r50 (
        some true) (
        br (eqI x40 0) (
          some (ltI s38 (wsub .i64 (↑a2.length : Int) 1))) (
          some false))))
noncomputable def m48_2b (a2 : (List Int)) (p18 : Int) (p19 : Int) (s38 : Int) : Option (Ctl Int (Unit ⊕ Unit)) :=
  br (ltI s38 p19) (
    bnd (idx a2 s38) fun x40 =>
    bnd (m48_4 a2 p18 s38 x40) fun v55 =>
    br v55 (
      some (.out (.inr ()))) (
      some (.nxt (wadd .i64 s38 1)))) (
    some (.out (.inl ())))
noncomputable def m48_5 (a2 : (List Int)) (a0 : Spp) : Option Bool :=
  br (eqI (↑a2.length : Int) 2) (
    some true) (
    bnd (idx a2 1) fun x60 =>
    ck (0 ≤ 1 ∧ 1 ≤ (↑a2.length : Int)) <|
    bnd (m49 a0 x60 (a2.drop 1)) fun r68 =>
    some (leI 0 r68))
noncomputable def m48 (a0 : Spp) (a1 : Int) (a2 : (List Int)) : Option Bool :=
  bnd (m48_1 a1 a2) fun v16 =>
  br v16 (
    some false) (
    bnd (loopP (m48_2b a2 (↑a0.ranked.length : Int) (↑a2.length : Int)) 0) fun o => selS o (fun _ =>
      bnd (m48_5 a2 a0) fun v71 =>
      some v71) (fun _ =>
      some false))
-- f14 spec.GoodSpp
noncomputable def m14_7 (s51 : Int) (s77 : Int) (x79 : (List Int)) (a0 : Spp) : Option Bool :=
  bnd (m48 a0 (wadd .i64 s51 1) x79) fun r86 =>
  br r86 (
    bnd (m49 a0 (wadd .i64 s51 1) x79) fun r90 =>
    some (!(eqI r90 s77))) (
    some true)
noncomputable def m14_5b (s51 : Int) (a0 : Spp) (x53 : (List (List Int))) (p59 : Int) (s77 : Int) : Option (Ctl Int (Unit ⊕ Unit)) :=
  br (ltI s77 p59) (
    bnd (idx x53 s77) fun x79 =>
    bnd (m14_7 s51 s77 x79 a0) fun v93 =>
    br v93 (
      some (.out (.inr ()))) (
      some (.nxt (wadd .i64 s77 1)))) (
    some (.out (.inl ())))
noncomputable def m14_1b (a0 : Spp) (p5 : Int) (s51 : Int) : Option (Ctl Int (Unit ⊕ Unit)) :=
  br (ltI s51 p5) (
    bnd (idx a0.ranked s51) fun x53 =>
    br (ltI 6 (↑x53.length : Int)) (
      some (.out (.inr ()))) (
      bnd (loopP (m14_5b s51 a0 x53 (↑x53.length : Int)) 0) fun o => selS o (fun _ =>
        some (.nxt (wadd .i64 s51 1))) (fun _ =>
        some (.out (.inr ()))))) (
    some (.out (.inl ())))
noncomputable def m14 (a0 : Spp) : Option Bool :=
  bnd (m47 (↑a0.ranked.length : Int) 1 5) fun r3 =>
  br r3 (
    bnd (loopP (m14_1b a0 (↑a0.ranked.length : Int)) 0) fun o => selS o (fun _ =>
      some true) (fun _ =>
      some false)) (
    some false)
-- f93 spec.l10Next
noncomputable def m93_3b (x44 : (List Int)) (a0 : Spp) (p : (Int × List l10Pair)) : Option (Ctl (Int × List l10Pair) (List l10Pair)) :=
  sel2 p fun s60 s61 =>
  br (ltI s60 (wsub .i64 (↑x44.length : Int) 1)) (
    bnd (idx x44 s60) fun x63 =>
    ck (0 ≤ s60 ∧ s60 ≤ (↑x44.length : Int)) <|
    bnd (m49 a0 x63 (x44.drop s60.toNat)) fun r71 =>
    ck (s61.length + 1 ≤ 4294967296) <|
    some (.nxt (wadd .i64 s60 1, s61 ++ [(⟨x63, r71⟩ : l10Pair)]))) (
    some (.out s61))
noncomputable def m93_1b (p7 : List (List Int)) (p8 : Int) (a0 : Spp) (p : (Int × List l10Pair)) : Option (Ctl (Int × List l10Pair) (List l10Pair)) :=
  sel2 p fun s41 s42 =>
  br (ltI s41 p8) (
    bnd (idx p7 s41) fun x44 =>
    bnd (loopP (m93_3b x44 a0) (1, s42)) fun v75 =>
    some (.nxt (wadd .i64 s41 1, v75))) (
    some (.out s42))
noncomputable def m93 (a0 : Spp) (a1 : l10Pair) : Option (List l10Pair) :=
  bnd (idx a0.ranked (wsub .i64 a1.node 1)) fun x1 =>
  ck (0 ≤ (wadd .i64 a1.path 1) ∧ (wadd .i64 a1.path 1) ≤ (↑x1.length : Int)) <|
  bnd (loopP (m93_1b (x1.take ((wadd .i64 a1.path 1).toNat)) (↑((x1.take ((wadd .i64 a1.path 1).toNat)).length) : Int) a0) (0, [])) fun v78 =>
  some v78
-- f63 spec.l10Round
noncomputable def m63_18 (s162 : Bool) (x146 : l10Pair) (x165 : l10Pair) : Option Bool :=
  br s162 (
    some true) (
    some (eqI x165.node x146.node && eqI x165.path x146.path))
noncomputable def m63_16b (p152 : Int) (s144 : List l10Pair) (x146 : l10Pair) (p : (Bool × Int)) : Option (Ctl (Bool × Int) Bool) :=
  sel2 p fun s162 s163 =>
  br (ltI s163 p152) (
    bnd (idx s144 s163) fun x165 =>
    bnd (m63_18 s162 x146 x165) fun v173 =>
    some (.nxt (v173, wadd .i64 s163 1))) (
    some (.out s162))
noncomputable def m63_19 (p177 : Bool) (s144 : List l10Pair) (x146 : l10Pair) : Option (List l10Pair) :=
  br p177 (
    ck (s144.length + 1 ≤ 4294967296) <|
    some (s144 ++ [x146])) (
    some s144)
noncomputable def m63_11b (r103 : (List l10Pair)) (p104 : Int) (a2 : l10Pair) (p : (Int × List l10Pair)) : Option (Ctl (Int × List l10Pair) (List l10Pair ⊕ Unit)) :=
  sel2 p fun s143 s144 =>
  br (ltI s143 p104) (
    bnd (idx r103 s143) fun x146 =>
    br (eqI x146.node a2.node && eqI x146.path a2.path) (
      some (.out (.inr ()))) (
      bnd (loopP (m63_16b (↑s144.length : Int) s144 x146) (false, 0)) fun v176 =>
      bnd (m63_19 (!v176) s144 x146) fun v182 =>
      some (.nxt (wadd .i64 s143 1, v182)))) (
    some (.out (.inl s144)))
noncomputable def m63_1b (a0 : Spp) (a2 : l10Pair) (p : (Int × List l10Pair)) : Option (Ctl (Int × List l10Pair) (Unit ⊕ Unit)) :=
  sel2 p fun s93 s94 =>
  br (ltI s93 (↑s94.length : Int)) (
    bnd (idx s94 s93) fun x96 =>
    bnd (m93 a0 x96) fun r103 =>
    bnd (loopP (m63_11b r103 (↑r103.length : Int) a2) (0, s94)) fun o => selS o (fun v185 =>
      some (.nxt (wadd .i64 s93 1, v185))) (fun _ =>
      some (.out (.inr ())))) (
    some (.out (.inl ())))
noncomputable def m63 (a0 : Spp) (a1 : l10Pair) (a2 : l10Pair) : Option Bool :=
  bnd (loopP (m63_1b a0 a2) (0, [a1])) fun o => selS o (fun _ =>
    some false) (fun _ =>
    some true)
-- f24 spec.HasWheel
noncomputable def m24_3b (s26 : Int) (a0 : Spp) (p33 : Int) (s39 : Int) : Option (Ctl Int (Unit ⊕ Unit)) :=
  br (ltI s39 p33) (
    bnd (m63 a0 (⟨wadd .i64 s26 1, s39⟩ : l10Pair) (⟨wadd .i64 s26 1, s39⟩ : l10Pair)) fun r43 =>
    br r43 (
      some (.out (.inr ()))) (
      some (.nxt (wadd .i64 s39 1)))) (
    some (.out (.inl ())))
noncomputable def m24_1b (a0 : Spp) (p5 : Int) (s26 : Int) : Option (Ctl Int (Unit ⊕ Unit)) :=
  br (ltI s26 p5) (
    bnd (idx a0.ranked s26) fun x28 =>
    bnd (loopP (m24_3b s26 a0 (↑x28.length : Int)) 0) fun o => selS o (fun _ =>
      some (.nxt (wadd .i64 s26 1))) (fun _ =>
      some (.out (.inr ())))) (
    some (.out (.inl ())))
noncomputable def m24 (a0 : Spp) : Option (Bool × Bool) :=
  bnd (m14 a0) fun r3 =>
  br r3 (
    bnd (loopP (m24_1b a0 (↑a0.ranked.length : Int)) 0) fun o => selS o (fun _ =>
      some (false, true)) (fun _ =>
      some (true, true))) (
    some (false, false))
-- f51 impl.within
noncomputable def m51_1 (a0 : Int) (a1 : Int) (a2 : Int) : Option Bool :=
  br (leI a1 a0) (
    some (leI a0 a2)) (
    some false)
noncomputable def m51 (a0 : Int) (a1 : Int) (a2 : Int) : Option Bool :=
  bnd (m51_1 a0 a1 a2) fun v4 =>
  some v4
-- f101 slices.Index[[]int,int]
noncomputable def m101_1b (a0 : (List Int)) (a1 : Int) (p1 : Int) (s9 : Int) : Option (Ctl Int (Unit ⊕ Int)) :=
  br (ltI s9 p1) (
    bnd (idx a0 s9) fun x11 =>
    br (eqI a1 x11) (
      some (.out (.inr s9))) (
      some (.nxt (wadd .i64 s9 1)))) (
    some (.out (.inl ())))
noncomputable def m101 (a0 : (List Int)) (a1 : Int) : Option Int :=
  bnd (loopP (m101_1b a0 a1 (↑a0.length : Int)) 0) fun o => selS o (fun _ =>
    some (-1)) (fun v19 =>
    some v19)
-- f89 slices.Contains[[]int,int]
noncomputable def m89 (a0 : (List Int)) (a1 : Int) : Option Bool :=
  bnd (m101 a0 a1) fun r3 =>
  some (leI 0 r3)
-- f91 slices.IndexFunc[[][]int,[]int]
noncomputable def m91_1b (a0 : (List (List Int))) (p1 : Int) (a1 : ((List Int) → Option Bool)) (s12 : Int) : Option (Ctl Int (Unit ⊕ Int)) :=
  br (ltI s12 p1) (
    bnd (idx a0 s12) fun x14 =>
    bnd (a1 x14) fun r19 =>
    br r19 (
      some (.out (.inr s12))) (
      some (.nxt (wadd .i64 s12 1)))) (
    some (.out (.inl ())))
noncomputable def m91 (a0 : (List (List Int))) (a1 : ((List Int) → Option Bool)) : Option Int :=
  bnd (loopP (m91_1b a0 (↑a0.length : Int) a1) 0) fun o => selS o (fun _ =>
    some (-1)) (fun v25 =>
    some v25)
-- f53 slices.ContainsFunc[[][]int,[]int]
noncomputable def m53 (a0 : (List (List Int))) (a1 : ((List Int) → Option Bool)) : Option Bool :=
  bnd (m91 a0 a1) fun r3 =>
  some (leI 0 r3)
-- f55 slices.Equal[[]int,int]
noncomputable def m55_1b (a0 : (List Int)) (a1 : (List Int)) (p2 : Int) (s15 : Int) : Option (Ctl Int (Unit ⊕ Unit)) :=
  br (ltI s15 p2) (
    bnd (idx a0 s15) fun x17 =>
    bnd (idx a1 s15) fun x22 =>
    br (eqI x17 x22) (
      some (.nxt (wadd .i64 s15 1))) (
      some (.out (.inr ())))) (
    some (.out (.inl ())))
noncomputable def m55 (a0 : (List Int)) (a1 : (List Int)) : Option Bool :=
  br (eqI (↑a0.length : Int) (↑a1.length : Int)) (
    bnd (loopP (m55_1b a0 a1 (↑a0.length : Int)) 0) fun o => selS o (fun _ =>
      some true) (fun _ =>
      some false)) (
    some false)
-- f90 impl.isWay$1
noncomputable def m90 (a0 : (List Int)) (a1 : (List Int)) : Option Bool :=
  ck (0 ≤ 1 ∧ 1 ≤ (↑a1.length : Int)) <|
  bnd (m55 a0 (a1.drop 1)) fun r4 =>
  some r4
-- f52 impl.isWay
noncomputable def m52_1 (a1 : Int) (p1 : Int) (a2 : (List Int)) : Option Bool :=
  br (ltI p1 1) (
    some true) (
    bnd (idx a2 0) fun x3 =>
    br (eqI x3 a1) (
      bnd (idx a2 p1) fun x9 =>
      some (!(eqI x9 0))) (
      some true))
noncomputable def m52_4 (p18 : Int) (s43 : Int) (x45 : Int) (a2 : (List Int)) (a0 : Spp) : Option Bool :=
  br (ltI s43 p18) (
    bnd (m51 x45 1 (↑a0.ranked.length : Int)) fun r53 =>
    br r53 (
      ck (0 ≤ s43 ∧ s43 ≤ (↑a2.length : Int)) <|
      bnd (m89 (a2.take s43.toNat) x45) fun r58 =>
      some r58) (
      some true)) (
    ck (0 ≤ s43 ∧ s43 ≤ (↑a2.length : Int)) <|
    bnd (m89 (a2.take s43.toNat) x45) fun r62 =>
    some r62)
noncomputable def m52_2b (p18 : Int) (a2 : (List Int)) (p19 : Int) (a0 : Spp) (s43 : Int) : Option (Ctl Int (Unit ⊕ Unit)) :=
  br (ltI s43 p19) (
    bnd (idx a2 s43) fun x45 =>
    bnd (m52_4 p18 s43 x45 a2 a0) fun v65 =>
    br v65 (
      some (.out (.inr ()))) (
      some (.nxt (wadd .i64 s43 1)))) (
    some (.out (.inl ())))
noncomputable def m52_5 (p69 : Int) (a0 : Spp) (a2 : (List Int)) : Option Bool :=
  br (eqI p69 1) (
    some true) (
    bnd (idx a2 1) fun x71 =>
    bnd (idx a0.ranked (wsub .i64 x71 1)) fun x76 =>
    bnd (m53 x76 (fun y0 => m90 y0 a2)) fun r83 =>
    some r83)
noncomputable def m52 (a0 : Spp) (a1 : Int) (a2 : (List Int)) : Option Bool :=
  bnd (m52_1 a1 (wsub .i64 (↑a2.length : Int) 1) a2) fun v16 =>
  br v16 (
    some false) (
    bnd (loopP (m52_2b (wsub .i64 (↑a2.length : Int) 1) a2 (↑a2.length : Int) a0) 0) fun o => selS o (fun _ =>
      bnd (m52_5 (wsub .i64 (↑a2.length : Int) 1) a0 a2) fun v86 =>
      some v86) (fun _ =>
      some false))
-- f54 impl.GoodSpp$1
noncomputable def m54 (a0 : (List Int)) (a1 : (List Int)) : Option Bool :=
  bnd (m55 a0 a1) fun r3 =>
  some r3
-- f16 impl.GoodSpp
noncomputable def m16_7 (s55 : Int) (x57 : (List (List Int))) (s83 : Int) (a0 : Spp) (x85 : (List Int)) : Option Bool :=
  br (ltI 6 (↑x85.length : Int)) (
    some true) (
    bnd (m52 a0 (wadd .i64 s55 1) x85) fun r93 =>
    br r93 (
      ck (0 ≤ s83 ∧ s83 ≤ (↑x57.length : Int)) <|
      bnd (m53 (x57.take s83.toNat) (fun y0 => m54 y0 x85)) fun r98 =>
      some r98) (
      some true))
noncomputable def m16_5b (s55 : Int) (x57 : (List (List Int))) (a0 : Spp) (p63 : Int) (s83 : Int) : Option (Ctl Int (Unit ⊕ Unit)) :=
  br (ltI s83 p63) (
    bnd (idx x57 s83) fun x85 =>
    bnd (m16_7 s55 x57 s83 a0 x85) fun v101 =>
    br v101 (
      some (.out (.inr ()))) (
      some (.nxt (wadd .i64 s83 1)))) (
    some (.out (.inl ())))
noncomputable def m16_1b (a0 : Spp) (p5 : Int) (s55 : Int) : Option (Ctl Int (Unit ⊕ Unit)) :=
  br (ltI s55 p5) (
    bnd (idx a0.ranked s55) fun x57 =>
    br (ltI 6 (↑x57.length : Int)) (
      some (.out (.inr ()))) (
      bnd (loopP (m16_5b s55 x57 a0 (↑x57.length : Int)) 0) fun o => selS o (fun _ =>
        some (.nxt (wadd .i64 s55 1))) (fun _ =>
        some (.out (.inr ()))))) (
    some (.out (.inl ())))
noncomputable def m16 (a0 : Spp) : Option Bool :=
  bnd (m51 (↑a0.ranked.length : Int) 1 5) fun r3 =>
  br r3 (
    bnd (loopP (m16_1b a0 (↑a0.ranked.length : Int)) 0) fun o => selS o (fun _ =>
      some true) (fun _ =>
      some false)) (
    some false)
-- f65 slices.Clone[[]impl.turn,impl.turn]
noncomputable def m65 (a0 : (List turn)) : Option (List turn) :=
  ck (0 + a0.length ≤ 4294967296) <|
  some a0
-- f94 slices.IndexFunc[[]impl.turn,impl.turn]
noncomputable def m94_1b (a0 : (List turn)) (p1 : Int) (a1 : (turn → Option Bool)) (s12 : Int) : Option (Ctl Int (Unit ⊕ Int)) :=
  br (ltI s12 p1) (
    bnd (idx a0 s12) fun x14 =>
    bnd (a1 x14) fun r19 =>
    br r19 (
      some (.out (.inr s12))) (
      some (.nxt (wadd .i64 s12 1)))) (
    some (.out (.inl ())))
noncomputable def m94 (a0 : (List turn)) (a1 : (turn → Option Bool)) : Option Int :=
  bnd (loopP (m94_1b a0 (↑a0.length : Int) a1) 0) fun o => selS o (fun _ =>
    some (-1)) (fun v25 =>
    some v25)
-- f64 slices.DeleteFunc[[]impl.turn,impl.turn]
noncomputable def m64_3 (s26 : Int) (p38 : Bool) (s28 : List turn) (x30 : turn) : Option (Int × List turn) :=
  br p38 (
    bnd (idx s28 s26) fun x40 =>
    some (wadd .i64 s26 1, s28.set s26.toNat x30)) (
    some (s26, s28))
noncomputable def m64_1b (a1 : (turn → Option Bool)) (p : (Int × Int × List turn)) : Option (Ctl (Int × Int × List turn) (Int × List turn)) :=
  sel3 p fun s26 s27 s28 =>
  br (ltI s27 (↑s28.length : Int)) (
    bnd (idx s28 s27) fun x30 =>
    bnd (a1 x30) fun r35 =>
    bnd (m64_3 s26 (!r35) s28 x30) fun p => sel2 p fun v47 v48 =>
    some (.nxt (v47, wadd .i64 s27 1, v48))) (
    some (.out (s26, s28)))
noncomputable def m64 (a0 : (List turn)) (a1 : (turn → Option Bool)) : Option (List turn) :=
  bnd (m94 a0 a1) fun r3 =>
  br (eqI r3 (-1)) (
    some a0) (
    bnd (loopP (m64_1b a1) (r3, wadd .i64 r3 1, a0)) fun p => sel2 p fun v51 v52 =>
    ck (0 ≤ v51 ∧ v51 ≤ (↑v52.length : Int)) <|
    ck (0 ≤ v51 ∧ v51 ≤ (↑(((v52.take v51.toNat).drop 0).take v52.length).length : Int)) <|
    some (v52.take v51.toNat))
-- f67 slices.ContainsFunc[[]impl.turn,impl.turn]
noncomputable def m67 (a0 : (List turn)) (a1 : (turn → Option Bool)) : Option Bool :=
  bnd (m94 a0 a1) fun r3 =>
  some (leI 0 r3)
-- f95 impl.leads$1
noncomputable def m95_1 (a0 : (List Int)) (a1 : (List Int)) : Option Bool :=
  br (ltI (↑a1.length : Int) (↑a0.length : Int)) (
    ck (0 ≤ (wsub .i64 (↑a0.length : Int) (↑a1.length : Int)) ∧ (wsub .i64 (↑a0.length : Int) (↑a1.length : Int)) ≤ (↑a0.length : Int)) <|
    bnd (m55 (a0.drop ((wsub .i64 (↑a0.length : Int) (↑a1.length : Int)).toNat)) a1) fun r5 =>
    some r5) (
    some false)
noncomputable def m95 (a0 : (List Int)) (a1 : (List Int)) : Option Bool :=
  bnd (m95_1 a0 a1) fun v8 =>
  some v8
-- f69 impl.leads
noncomputable def m69 (a0 : Spp) (a1 : turn) (a2 : turn) : Option Bool :=
  br (eqI a1.node a2.node) (
    some false) (
    bnd (idx a0.ranked a2.node) fun x2 =>
    bnd (idx x2 a2.way) fun x7 =>
    bnd (idx a0.ranked a1.node) fun x12 =>
    ck (0 ≤ (wadd .i64 a1.way 1) ∧ (wadd .i64 a1.way 1) ≤ (↑x12.length : Int)) <|
    bnd (m53 (x12.take ((wadd .i64 a1.way 1).toNat)) (fun y0 => m95 y0 x7)) fun r20 =>
    some r20)
-- f68 impl.HasWheel$1$1
noncomputable def m68 (a0 : turn) (a1 : Spp) (a2 : turn) : Option Bool :=
  bnd (m69 a1 a2 a0) fun r3 =>
  some r3
-- f66 impl.HasWheel$1
noncomputable def m66 (a0 : turn) (a1 : (List turn)) (a2 : Spp) : Option Bool :=
  bnd (m67 a1 (fun y0 => m68 y0 a2 a0)) fun r3 =>
  some (!r3)
-- f25 impl.HasWheel
noncomputable def m25_3b (s21 : Int) (p29 : Int) (p : (Int × List turn)) : Option (Ctl (Int × List turn) (List turn)) :=
  sel2 p fun s32 s33 =>
  br (ltI s32 p29) (
    ck (s33.length + 1 ≤ 4294967296) <|
    some (.nxt (wadd .i64 s32 1, s33 ++ [(⟨s21, s32⟩ : turn)]))) (
    some (.out s33))
noncomputable def m25_1b (a0 : Spp) (p5 : Int) (p : (Int × List turn)) : Option (Ctl (Int × List turn) (List turn)) :=
  sel2 p fun s21 s22 =>
  br (ltI s21 p5) (
    bnd (idx a0.ranked s21) fun x24 =>
    bnd (loopP (m25_3b s21 (↑x24.length : Int)) (0, s22)) fun v38 =>
    some (.nxt (wadd .i64 s21 1, v38))) (
    some (.out s22))
noncomputable def m25_4b (a0 : Spp) (s49 : List turn) : Option (Ctl (List turn) Bool) :=
  bnd (m65 s49) fun r52 =>
  bnd (m64 r52 (fun y0 => m66 y0 s49 a0)) fun r55 =>
  br (eqI (↑r55.length : Int) (↑s49.length : Int)) (
    some (.out (ltI 0 (↑s49.length : Int)))) (
    some (.nxt r55))
noncomputable def m25 (a0 : Spp) : Option (Bool × Bool) :=
  bnd (m16 a0) fun r3 =>
  br r3 (
    bnd (loopP (m25_1b a0 (↑a0.ranked.length : Int)) (0, [])) fun v41 =>
    bnd (loopP (m25_4b a0) v41) fun v59 =>
    some (v59, true)) (
    some (false, false))
-- f21 laws.eqIntS
noncomputable def m21_1b (a0 : (List Int)) (a1 : (List Int)) (s14 : Int) : Option (Ctl Int (Unit ⊕ Unit)) :=
  br (ltI s14 (↑a0.length : Int)) (
    bnd (idx a0 s14) fun x16 =>
    bnd (idx a1 s14) fun x21 =>
    br (eqI x16 x21) (
      some (.nxt (wadd .i64 s14 1))) (
      some (.out (.inr ())))) (
    some (.out (.inl ())))
noncomputable def m21 (a0 : (List Int)) (a1 : (List Int)) : Option Bool :=
  br (eqI (↑a0.length : Int) (↑a1.length : Int)) (
    bnd (loopP (m21_1b a0 a1) 0) fun o => selS o (fun _ =>
      some true) (fun _ =>
      some false)) (
    some false)
-- f33 laws.eqIntSS
noncomputable def m33_1b (a0 : (List (List Int))) (a1 : (List (List Int))) (s17 : Int) : Option (Ctl Int (Unit ⊕ Unit)) :=
  br (ltI s17 (↑a0.length : Int)) (
    bnd (idx a0 s17) fun x19 =>
    bnd (idx a1 s17) fun x24 =>
    bnd (m21 x19 x24) fun r31 =>
    br r31 (
      some (.nxt (wadd .i64 s17 1))) (
      some (.out (.inr ())))) (
    some (.out (.inl ())))
noncomputable def m33 (a0 : (List (List Int))) (a1 : (List (List Int))) : Option Bool :=
  br (eqI (↑a0.length : Int) (↑a1.length : Int)) (
    bnd (loopP (m33_1b a0 a1) 0) fun o => selS o (fun _ =>
      some true) (fun _ =>
      some false)) (
    some false)
-- f56 laws.eqIntSSS
noncomputable def m56_1b (a0 : (List (List (List Int)))) (a1 : (List (List (List Int)))) (s17 : Int) : Option (Ctl Int (Unit ⊕ Unit)) :=
  br (ltI s17 (↑a0.length : Int)) (
    bnd (idx a0 s17) fun x19 =>
    bnd (idx a1 s17) fun x24 =>
    bnd (m33 x19 x24) fun r31 =>
    br r31 (
      some (.nxt (wadd .i64 s17 1))) (
      some (.out (.inr ())))) (
    some (.out (.inl ())))
noncomputable def m56 (a0 : (List (List (List Int)))) (a1 : (List (List (List Int)))) : Option Bool :=
  br (eqI (↑a0.length : Int) (↑a1.length : Int)) (
    bnd (loopP (m56_1b a0 a1) 0) fun o => selS o (fun _ =>
      some true) (fun _ =>
      some false)) (
    some false)
-- f17 laws.eqSpp
noncomputable def m17 (a0 : Spp) (a1 : Spp) : Option Bool :=
  bnd (m56 a0.ranked a1.ranked) fun r3 =>
  br r3 (
    some true) (
    some false)
-- f6 laws.FnExactHasWheel
noncomputable def m6_1 (r10 : Bool) (r11 : Bool) (r16 : Bool) (r17 : Bool) : Option Bool :=
  br (eqB r16 r10) (
    some (!eqB r17 r11)) (
    some true)
noncomputable def m6 (a0 : Spp) : Option Bool :=
  bnd (m13 a0 1048576) fun r3 =>
  br (ltI r3 0) (
    some true) (
    bnd (m15 a0) fun r7 =>
    bnd (m24 r7) fun p => sel2 p fun r10 r11 =>
    bnd (m25 r7) fun p => sel2 p fun r16 r17 =>
    bnd (m6_1 r10 r11 r16 r17) fun v21 =>
    br v21 (
      some false) (
      bnd (m17 r7 r7) fun r27 =>
      br r27 (
        some true) (
        some false)))
end Go.Pi.Ytpfoleebeamgpaa.HasWheel
