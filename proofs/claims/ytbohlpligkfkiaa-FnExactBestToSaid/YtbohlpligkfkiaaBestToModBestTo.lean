/- What functions of the program answer, and that the law answers true at every input; no condition -/
import Derived.Test.YtbohlpligkfkiaaPiD
set_option linter.all false
/- Functions of the program, in plain Lean. -/
namespace Go.Pi.Ytbohlpligkfkiaa.BestTo
open Go Go.Pi
set_option maxRecDepth 100000
set_option linter.all false
def wfInt (x : Int) : Prop := -9223372036854775808 ≤ x ∧ x ≤ 9223372036854775807
def wfLInt (x : (List Int)) : Prop := x.length ≤ 9223372036854775807 ∧ ∀ y ∈ x, wfInt y
def wfLLInt (x : (List (List Int))) : Prop := x.length ≤ 9223372036854775807 ∧ ∀ y ∈ x, wfLInt y
structure Algebra where
  weights : Int
  apply : (List (List Int))
  deriving Inhabited, DecidableEq
def wfAlgebra (x : Algebra) : Prop := wfInt x.weights ∧ wfLLInt x.apply
structure Arc where
  from_ : Int
  to : Int
  label : Int
  deriving Inhabited, DecidableEq
def wfArc (x : Arc) : Prop := wfInt x.from_ ∧ wfInt x.to ∧ wfInt x.label
def wfLArc (x : (List Arc)) : Prop := x.length ≤ 9223372036854775807 ∧ ∀ y ∈ x, wfArc y
def wfBool (x : Bool) : Prop := True
def wfIntu64 (x : Int) : Prop := 0 ≤ x ∧ x ≤ 18446744073709551615
-- f76 laws.szIntS
noncomputable def m76 (a0 : (List Int)) (a1 : Int) : Option Int :=
  br (ltI (wsub .i64 a1 (↑a0.length : Int)) 0) (
    some (-1)) (
    some (wsub .i64 a1 (↑a0.length : Int)))
-- f44 laws.szIntSS
noncomputable def m44_1b (a0 : (List (List Int))) (p : (Int × Int)) : Option (Ctl (Int × Int) (Int ⊕ Unit)) :=
  sel2 p fun s13 s14 =>
  br (ltI s14 (↑a0.length : Int)) (
    bnd (idx a0 s14) fun x16 =>
    bnd (m76 x16 s13) fun r23 =>
    br (ltI r23 0) (
      some (.out (.inr ()))) (
      some (.nxt (r23, wadd .i64 s14 1)))) (
    some (.out (.inl s13)))
noncomputable def m44 (a0 : (List (List Int))) (a1 : Int) : Option Int :=
  br (ltI (wsub .i64 a1 (↑a0.length : Int)) 0) (
    some (-1)) (
    bnd (loopP (m44_1b a0) (wsub .i64 a1 (↑a0.length : Int), 0)) fun o => selS o (fun v27 =>
      some v27) (fun _ =>
      some (-1)))
-- f12 laws.szAlgebra
noncomputable def m12 (a0 : Algebra) (a1 : Int) : Option Int :=
  bnd (m44 a0.apply a1) fun r3 =>
  br (ltI r3 0) (
    some (-1)) (
    some r3)
-- f25 laws.szArcS
noncomputable def m25 (a0 : (List Arc)) (a1 : Int) : Option Int :=
  br (ltI (wsub .i64 a1 (↑a0.length : Int)) 0) (
    some (-1)) (
    some (wsub .i64 a1 (↑a0.length : Int)))
-- f28 laws.toIntS
noncomputable def m28_1b (a0 : (List Int)) (p : (Int × List Int)) : Option (Ctl (Int × List Int) (List Int)) :=
  sel2 p fun s14 s15 =>
  br (ltI s14 (↑a0.length : Int)) (
    bnd (idx a0 s14) fun x17 =>
    bnd (idx s15 s14) fun x22 =>
    some (.nxt (wadd .i64 s14 1, s15.set s14.toNat x17))) (
    some (.out s15))
noncomputable def m28 (a0 : (List Int)) : Option (List Int) :=
  ck (0 ≤ (↑a0.length : Int) ∧ (↑a0.length : Int) ≤ (↑a0.length : Int) ∧ (↑a0.length : Int) ≤ 4294967296) <|
  bnd (loopP (m28_1b a0) (0, List.replicate a0.length 0)) fun v29 =>
  some v29
-- f47 laws.toIntSS
noncomputable def m47_1b (a0 : (List (List Int))) (p : (Int × List (List Int))) : Option (Ctl (Int × List (List Int)) (List (List Int))) :=
  sel2 p fun s17 s18 =>
  br (ltI s17 (↑a0.length : Int)) (
    bnd (idx a0 s17) fun x20 =>
    bnd (m28 x20) fun r27 =>
    bnd (idx s18 s17) fun x28 =>
    some (.nxt (wadd .i64 s17 1, s18.set s17.toNat r27))) (
    some (.out s18))
noncomputable def m47 (a0 : (List (List Int))) : Option (List (List Int)) :=
  ck (0 ≤ (↑a0.length : Int) ∧ (↑a0.length : Int) ≤ (↑a0.length : Int) ∧ (↑a0.length : Int) ≤ 4294967296) <|
  bnd (loopP (m47_1b a0) (0, List.replicate a0.length [])) fun v35 =>
  some v35
-- f14 laws.toAlgebra
noncomputable def m14 (a0 : Algebra) : Option Algebra :=
  bnd (m47 a0.apply) fun r3 =>
  some (⟨a0.weights, r3⟩ : Algebra)
-- f62 laws.toArc
noncomputable def m62 (a0 : Arc) : Option Arc :=
  some a0
-- f27 laws.toArcS
noncomputable def m27_1b (a0 : (List Arc)) (p : (Int × List Arc)) : Option (Ctl (Int × List Arc) (List Arc)) :=
  sel2 p fun s17 s18 =>
  br (ltI s17 (↑a0.length : Int)) (
    bnd (idx a0 s17) fun x20 =>
    bnd (m62 x20) fun r27 =>
    bnd (idx s18 s17) fun x28 =>
    some (.nxt (wadd .i64 s17 1, s18.set s17.toNat r27))) (
    some (.out s18))
noncomputable def m27 (a0 : (List Arc)) : Option (List Arc) :=
  ck (0 ≤ (↑a0.length : Int) ∧ (↑a0.length : Int) ≤ (↑a0.length : Int) ∧ (↑a0.length : Int) ≤ 4294967296) <|
  bnd (loopP (m27_1b a0) (0, List.replicate a0.length (⟨0, 0, 0⟩ : Arc))) fun v35 =>
  some v35
-- f45 spec.l1In
noncomputable def m45_1 (a0 : Int) (a1 : Int) (a2 : Int) : Option Bool :=
  br (leI a1 a0) (
    some (leI a0 a2)) (
    some false)
noncomputable def m45 (a0 : Int) (a1 : Int) (a2 : Int) : Option Bool :=
  bnd (m45_1 a0 a1 a2) fun v4 =>
  some v4
-- f46 spec.l9Apply
noncomputable def m46_3 (a1 : Int) (x15 : Int) : Option Bool :=
  br (ltI x15 0) (
    some true) (
    some (leI a1 x15))
noncomputable def m46_1b (a0 : (List Int)) (a1 : Int) (p1 : Int) (s13 : Int) : Option (Ctl Int (Unit ⊕ Unit)) :=
  br (ltI s13 p1) (
    bnd (idx a0 s13) fun x15 =>
    bnd (m46_3 a1 x15) fun v23 =>
    br v23 (
      some (.out (.inr ()))) (
      some (.nxt (wadd .i64 s13 1)))) (
    some (.out (.inl ())))
noncomputable def m46_4 (a0 : (List Int)) (a1 : Int) : Option Bool :=
  br (eqI (↑a0.length : Int) a1) (
    bnd (idx a0 (wsub .i64 a1 1)) fun x28 =>
    some (eqI x28 (wsub .i64 a1 1))) (
    some false)
noncomputable def m46 (a0 : (List Int)) (a1 : Int) : Option Bool :=
  bnd (loopP (m46_1b a0 a1 (↑a0.length : Int)) 0) fun o => selS o (fun _ =>
    bnd (m46_4 a0 a1) fun v35 =>
    some v35) (fun _ =>
    some false)
-- f13 spec.GoodAlgebra
noncomputable def m13_1 (a0 : Algebra) : Option Bool :=
  bnd (m45 a0.weights 2 12) fun r3 =>
  br r3 (
    bnd (m45 (↑a0.apply.length : Int) 1 4) fun r7 =>
    some (!r7)) (
    some true)
noncomputable def m13_2b (a0 : Algebra) (p12 : Int) (s23 : Int) : Option (Ctl Int (Unit ⊕ Unit)) :=
  br (ltI s23 p12) (
    bnd (idx a0.apply s23) fun x25 =>
    bnd (m46 x25 a0.weights) fun r32 =>
    br r32 (
      some (.nxt (wadd .i64 s23 1))) (
      some (.out (.inr ())))) (
    some (.out (.inl ())))
noncomputable def m13 (a0 : Algebra) : Option Bool :=
  bnd (m13_1 a0) fun v10 =>
  br v10 (
    some false) (
    bnd (loopP (m13_2b a0 (↑a0.apply.length : Int)) 0) fun o => selS o (fun _ =>
      some true) (fun _ =>
      some false))
-- f59 spec.l9Arcs
noncomputable def m59_3 (a0 : Algebra) (x24 : Arc) : Option Bool :=
  bnd (m45 x24.from_ 0 5) fun r31 =>
  br r31 (
    bnd (m45 x24.to 0 5) fun r35 =>
    br r35 (
      br (eqI x24.from_ x24.to) (
        some true) (
        br (ltI x24.label 0) (
          some true) (
          some (leI (↑a0.apply.length : Int) x24.label)))) (
      some true)) (
    some true)
noncomputable def m59_1b (a1 : (List Arc)) (p1 : Int) (a0 : Algebra) (s22 : Int) : Option (Ctl Int (Unit ⊕ Unit)) :=
  br (ltI s22 p1) (
    bnd (idx a1 s22) fun x24 =>
    bnd (m59_3 a0 x24) fun v41 =>
    br v41 (
      some (.out (.inr ()))) (
      some (.nxt (wadd .i64 s22 1)))) (
    some (.out (.inl ())))
noncomputable def m59_4 (a1 : (List Arc)) (a0 : Algebra) : Option Bool :=
  bnd (m13 a0) fun r47 =>
  br r47 (
    some (leI (↑a1.length : Int) 20)) (
    some false)
noncomputable def m59 (a0 : Algebra) (a1 : (List Arc)) : Option Bool :=
  bnd (loopP (m59_1b a1 (↑a1.length : Int) a0) 0) fun o => selS o (fun _ =>
    bnd (m59_4 a1 a0) fun v51 =>
    some v51) (fun _ =>
    some false)
-- f68 spec.l9None
noncomputable def m68_1b (a0 : Algebra) (p : (Int × List Int)) : Option (Ctl (Int × List Int) (List Int)) :=
  sel2 p fun s2 s3 =>
  br (ltI s2 6) (
    ck (s3.length + 1 ≤ 4294967296) <|
    some (.nxt (wadd .i64 s2 1, s3 ++ [wsub .i64 a0.weights 1]))) (
    some (.out s3))
noncomputable def m68 (a0 : Algebra) : Option (List Int) :=
  bnd (loopP (m68_1b a0) (0, [])) fun v8 =>
  some v8
-- f61 spec.l9Arc
noncomputable def m61_3 (a1 : Int) (a2 : Int) (x15 : Arc) : Option Bool :=
  br (eqI x15.from_ a1) (
    some (eqI x15.to a2)) (
    some false)
noncomputable def m61_1b (a1 : Int) (a2 : Int) (a0 : (List Arc)) (p1 : Int) (s13 : Int) : Option (Ctl Int (Unit ⊕ Int)) :=
  br (ltI s13 p1) (
    bnd (idx a0 s13) fun x15 =>
    bnd (m61_3 a1 a2 x15) fun v23 =>
    br v23 (
      some (.out (.inr x15.label))) (
      some (.nxt (wadd .i64 s13 1)))) (
    some (.out (.inl ())))
noncomputable def m61 (a0 : (List Arc)) (a1 : Int) (a2 : Int) : Option Int :=
  bnd (loopP (m61_1b a1 a2 a0 (↑a0.length : Int)) 0) fun o => selS o (fun _ =>
    some (-1)) (fun v27 =>
    some v27)
-- f37 spec.BestTo
noncomputable def m37_1 (a1 : (List Arc)) (a2 : Int) (a0 : Algebra) : Option Bool :=
  bnd (m59 a0 a1) fun r3 =>
  br r3 (
    bnd (m45 a2 0 5) fun r7 =>
    some (!r7)) (
    some true)
noncomputable def m37_16 (s237 : Int) (s238 : Int) (s208 : List Int) (s209 : List Bool) : Option Bool :=
  bnd (idx s209 s238) fun x240 =>
  br x240 (
    some false) (
    br (ltI s237 0) (
      some true) (
      bnd (idx s208 s238) fun x247 =>
      bnd (idx s208 s237) fun x252 =>
      some (ltI x247 x252)))
noncomputable def m37_17 (s237 : Int) (s238 : Int) (v259 : Bool) : Option Int :=
  br v259 (
    some s238) (
    some s237)
noncomputable def m37_13b (p211 : Int) (s208 : List Int) (s209 : List Bool) (p : (Int × Int)) : Option (Ctl (Int × Int) Int) :=
  sel2 p fun s237 s238 =>
  br (ltI s238 p211) (
    bnd (m37_16 s237 s238 s208 s209) fun v259 =>
    bnd (m37_17 s237 s238 v259) fun v263 =>
    some (.nxt (v263, wadd .i64 s238 1))) (
    some (.out s237))
noncomputable def m37_21 (v266 : Int) (s331 : Int) (r336 : Int) (a0 : Algebra) (s332 : List Int) (p272 : List Bool) : Option Bool :=
  br (leI 0 r336) (
    bnd (idx p272 s331) fun x338 =>
    br x338 (
      some false) (
      bnd (idx a0.apply r336) fun x344 =>
      bnd (idx s332 v266) fun x349 =>
      bnd (idx x344 x349) fun x354 =>
      bnd (idx s332 s331) fun x359 =>
      some (ltI x354 x359))) (
    some false)
noncomputable def m37_22 (v266 : Int) (s331 : Int) (r336 : Int) (v366 : Bool) (a0 : Algebra) (s332 : List Int) : Option (List Int) :=
  br v366 (
    bnd (idx a0.apply r336) fun x368 =>
    bnd (idx s332 v266) fun x373 =>
    bnd (idx x368 x373) fun x378 =>
    bnd (idx s332 s331) fun x383 =>
    some (s332.set s331.toNat x378)) (
    some s332)
noncomputable def m37_18b (a1 : (List Arc)) (v266 : Int) (a0 : Algebra) (p272 : List Bool) (p : (Int × List Int)) : Option (Ctl (Int × List Int) (List Int)) :=
  sel2 p fun s331 s332 =>
  br (ltI s331 6) (
    bnd (m61 a1 s331 v266) fun r336 =>
    bnd (m37_21 v266 s331 r336 a0 s332 p272) fun v366 =>
    bnd (m37_22 v266 s331 r336 v366 a0 s332) fun v390 =>
    some (.nxt (wadd .i64 s331 1, v390))) (
    some (.out s332))
noncomputable def m37_2b (a1 : (List Arc)) (a0 : Algebra) (p : (Int × List Int × List Bool)) : Option (Ctl (Int × List Int × List Bool) (List Int)) :=
  sel3 p fun s207 s208 s209 =>
  br (ltI s207 6) (
    bnd (loopP (m37_13b (↑s208.length : Int) s208 s209) ((-1), 0)) fun v266 =>
    bnd (idx s209 v266) fun x267 =>
    bnd (loopP (m37_18b a1 v266 a0 (s209.set v266.toNat true)) (0, s208)) fun v393 =>
    some (.nxt (wadd .i64 s207 1, v393, (s209.set v266.toNat true)))) (
    some (.out s208))
noncomputable def m37 (a0 : Algebra) (a1 : (List Arc)) (a2 : Int) : Option ((List Int) × Bool) :=
  bnd (m37_1 a1 a2 a0) fun v10 =>
  br v10 (
    some ([], false)) (
    bnd (m68 a0) fun r14 =>
    bnd (idx r14 a2) fun x15 =>
    ck (0 ≤ 6 ∧ 6 ≤ 6 ∧ 6 ≤ 4294967296) <|
    bnd (loopP (m37_2b a1 a0) (0, r14.set a2.toNat 0, List.replicate 6 false)) fun v396 =>
    some (v396, true))
-- f48 impl.within
noncomputable def m48_1 (a0 : Int) (a1 : Int) (a2 : Int) : Option Bool :=
  br (leI a1 a0) (
    some (leI a0 a2)) (
    some false)
noncomputable def m48 (a0 : Int) (a1 : Int) (a2 : Int) : Option Bool :=
  bnd (m48_1 a0 a1 a2) fun v4 =>
  some v4
-- f77 slices.IndexFunc[[][]int,[]int]
noncomputable def m77_1b (a0 : (List (List Int))) (p1 : Int) (a1 : ((List Int) → Option Bool)) (s12 : Int) : Option (Ctl Int (Unit ⊕ Int)) :=
  br (ltI s12 p1) (
    bnd (idx a0 s12) fun x14 =>
    bnd (a1 x14) fun r19 =>
    br r19 (
      some (.out (.inr s12))) (
      some (.nxt (wadd .i64 s12 1)))) (
    some (.out (.inl ())))
noncomputable def m77 (a0 : (List (List Int))) (a1 : ((List Int) → Option Bool)) : Option Int :=
  bnd (loopP (m77_1b a0 (↑a0.length : Int) a1) 0) fun o => selS o (fun _ =>
    some (-1)) (fun v25 =>
    some v25)
-- f49 slices.ContainsFunc[[][]int,[]int]
noncomputable def m49 (a0 : (List (List Int))) (a1 : ((List Int) → Option Bool)) : Option Bool :=
  bnd (m77 a0 a1) fun r3 =>
  some (leI 0 r3)
-- f51 (impl.Algebra).worst
noncomputable def m51 (a0 : Algebra) : Option Int :=
  some (wsub .i64 a0.weights 1)
-- f78 slices.IndexFunc[[]int,int]
noncomputable def m78_1b (a0 : (List Int)) (p1 : Int) (a1 : (Int → Option Bool)) (s12 : Int) : Option (Ctl Int (Unit ⊕ Int)) :=
  br (ltI s12 p1) (
    bnd (idx a0 s12) fun x14 =>
    bnd (a1 x14) fun r19 =>
    br r19 (
      some (.out (.inr s12))) (
      some (.nxt (wadd .i64 s12 1)))) (
    some (.out (.inl ())))
noncomputable def m78 (a0 : (List Int)) (a1 : (Int → Option Bool)) : Option Int :=
  bnd (loopP (m78_1b a0 (↑a0.length : Int) a1) 0) fun o => selS o (fun _ =>
    some (-1)) (fun v25 =>
    some v25)
-- f52 slices.ContainsFunc[[]int,int]
noncomputable def m52 (a0 : (List Int)) (a1 : (Int → Option Bool)) : Option Bool :=
  bnd (m78 a0 a1) fun r3 =>
  some (leI 0 r3)
-- f53 impl.GoodAlgebra$1$1
noncomputable def m53 (a0 : Int) (a1 : Algebra) : Option Bool :=
  bnd (m51 a1) fun r3 =>
  bnd (m48 a0 0 r3) fun r6 =>
  some (!r6)
-- f50 impl.GoodAlgebra$1
noncomputable def m50_1 (a0 : (List Int)) (a1 : Algebra) : Option Bool :=
  br (eqI (↑a0.length : Int) a1.weights) (
    bnd (m51 a1) fun r4 =>
    bnd (idx a0 r4) fun x5 =>
    br (eqI x5 r4) (
      bnd (m52 a0 (fun y0 => m53 y0 a1)) fun r15 =>
      some r15) (
      some true)) (
    some true)
noncomputable def m50 (a0 : (List Int)) (a1 : Algebra) : Option Bool :=
  bnd (m50_1 a0 a1) fun v18 =>
  some v18
-- f15 impl.GoodAlgebra
noncomputable def m15_1 (a0 : Algebra) : Option Bool :=
  bnd (m48 a0.weights 2 12) fun r3 =>
  br r3 (
    bnd (m48 (↑a0.apply.length : Int) 1 4) fun r7 =>
    some (!r7)) (
    some true)
noncomputable def m15 (a0 : Algebra) : Option Bool :=
  bnd (m15_1 a0) fun v10 =>
  br v10 (
    some false) (
    bnd (m49 a0.apply (fun y0 => m50 y0 a0)) fun r14 =>
    some (!r14))
-- f83 slices.IndexFunc[[]impl.Arc,impl.Arc]
noncomputable def m83_1b (a0 : (List Arc)) (p1 : Int) (a1 : (Arc → Option Bool)) (s12 : Int) : Option (Ctl Int (Unit ⊕ Int)) :=
  br (ltI s12 p1) (
    bnd (idx a0 s12) fun x14 =>
    bnd (a1 x14) fun r19 =>
    br r19 (
      some (.out (.inr s12))) (
      some (.nxt (wadd .i64 s12 1)))) (
    some (.out (.inl ())))
noncomputable def m83 (a0 : (List Arc)) (a1 : (Arc → Option Bool)) : Option Int :=
  bnd (loopP (m83_1b a0 (↑a0.length : Int) a1) 0) fun o => selS o (fun _ =>
    some (-1)) (fun v25 =>
    some v25)
-- f80 slices.ContainsFunc[[]impl.Arc,impl.Arc]
noncomputable def m80 (a0 : (List Arc)) (a1 : (Arc → Option Bool)) : Option Bool :=
  bnd (m83 a0 a1) fun r3 =>
  some (leI 0 r3)
-- f64 impl.isSpeaker
noncomputable def m64 (a0 : Int) : Option Bool :=
  bnd (m48 a0 0 5) fun r3 =>
  some r3
-- f81 impl.areArcs$1
noncomputable def m81_1 (a1 : Algebra) (a0 : Arc) : Option Bool :=
  bnd (m64 a0.from_) fun r3 =>
  br r3 (
    bnd (m64 a0.to) fun r7 =>
    br r7 (
      br (eqI a0.from_ a0.to) (
        some true) (
        bnd (m48 a0.label 0 (wsub .i64 (↑a1.apply.length : Int) 1)) fun r12 =>
        some (!r12))) (
      some true)) (
    some true)
noncomputable def m81 (a0 : Arc) (a1 : Algebra) : Option Bool :=
  bnd (m81_1 a1 a0) fun v15 =>
  some v15
-- f63 impl.areArcs
noncomputable def m63_1 (a1 : (List Arc)) (a0 : Algebra) : Option Bool :=
  bnd (m15 a0) fun r3 =>
  br r3 (
    br (leI (↑a1.length : Int) 20) (
      bnd (m80 a1 (fun y0 => m81 y0 a0)) fun r8 =>
      some (!r8)) (
      some false)) (
    some false)
noncomputable def m63 (a0 : Algebra) (a1 : (List Arc)) : Option Bool :=
  bnd (m63_1 a1 a0) fun v11 =>
  some v11
-- f90 math/bits.Mul64
noncomputable def m90 (a0 : Int) (a1 : Int) : Option (Int × Int) :=
  some (wadd .u64 (wadd .u64 (wmul .u64 (wshr .u64 a0 32) (wshr .u64 a1 32)) (wshr .u64 (wadd .u64 (wmul .u64 (wshr .u64 a0 32) (intBits .and .u64 a1 4294967295)) (wshr .u64 (wmul .u64 (intBits .and .u64 a0 4294967295) (intBits .and .u64 a1 4294967295)) 32)) 32)) (wshr .u64 (wadd .u64 (intBits .and .u64 (wadd .u64 (wmul .u64 (wshr .u64 a0 32) (intBits .and .u64 a1 4294967295)) (wshr .u64 (wmul .u64 (intBits .and .u64 a0 4294967295) (intBits .and .u64 a1 4294967295)) 32)) 4294967295) (wmul .u64 (intBits .and .u64 a0 4294967295) (wshr .u64 a1 32))) 32), wmul .u64 a0 a1)
-- f85 math/bits.Mul
noncomputable def m85 (a0 : Int) (a1 : Int) : Option (Int × Int) :=
  bnd (m90 a0 a1) fun p => sel2 p fun r3 r4 =>
  some (r3, r4)
-- f70 slices.Repeat[[]int,int]
noncomputable def m70_1 (r4 : Int) (r5 : Int) : Option Bool :=
  br (ltI 0 r4) (
    some true) (
    some (ltI 9223372036854775807 r5))
noncomputable def m70_2b (p : (Int × List Int)) : Option (Ctl (Int × List Int) (List Int)) :=
  sel2 p fun s29 s30 =>
  br (ltI s29 (↑s30.length : Int)) (
    ck (0 ≤ s29 ∧ s29 ≤ (↑s30.length : Int)) <|
    ck (0 ≤ s29 ∧ s29 ≤ (↑s30.length : Int)) <|
    bnd (cpy s30 s29.toNat (s30.length - s29.toNat) (s30.take s29.toNat)) fun v38 =>
    some (.nxt (wadd .i64 s29 (↑(min ((s30.take s29.toNat).length) (s30.length - s29.toNat)) : Int), v38))) (
    some (.out s30))
noncomputable def m70 (a0 : (List Int)) (a1 : Int) : Option (List Int) :=
  br (ltI a1 0) (
    none) (
    bnd (m85 (wcv .u64 (↑a0.length : Int)) (wcv .u64 a1)) fun p => sel2 p fun r4 r5 =>
    bnd (m70_1 r4 r5) fun v9 =>
    br v9 (
      none) (
      ck (0 ≤ (wcv .i64 r5) ∧ (wcv .i64 r5) ≤ (wcv .i64 r5) ∧ (wcv .i64 r5) ≤ 4294967296) <|
      bnd (cpy (List.replicate ((wcv .i64 r5).toNat) 0) 0 ((List.replicate ((wcv .i64 r5).toNat) 0).length) a0) fun v13 =>
      bnd (loopP (m70_2b) ((↑(min a0.length ((List.replicate ((wcv .i64 r5).toNat) 0).length)) : Int), v13)) fun v44 =>
      some v44))
-- f84 impl.labelOf$1
noncomputable def m84_1 (a1 : Int) (a2 : Int) (a0 : Arc) : Option Bool :=
  br (eqI a0.from_ a1) (
    some (eqI a0.to a2)) (
    some false)
noncomputable def m84 (a0 : Arc) (a1 : Int) (a2 : Int) : Option Bool :=
  bnd (m84_1 a1 a2 a0) fun v4 =>
  some v4
-- f66 impl.labelOf
noncomputable def m66 (a0 : (List Arc)) (a1 : Int) (a2 : Int) : Option (Int × Bool) :=
  bnd (m83 a0 (fun y0 => m84 y0 a1 a2)) fun r3 =>
  br (ltI r3 0) (
    some (0, false)) (
    bnd (idx a0 r3) fun x5 =>
    some (x5.label, true))
-- f38 impl.BestTo
noncomputable def m38_1 (a1 : (List Arc)) (a2 : Int) (a0 : Algebra) : Option Bool :=
  bnd (m63 a0 a1) fun r3 =>
  br r3 (
    bnd (m64 a2) fun r7 =>
    some (!r7)) (
    some true)
noncomputable def m38_16 (s200 : Int) (s201 : Int) (x203 : Int) (s171 : List Int) (s172 : List Bool) : Option Bool :=
  bnd (idx s172 s201) fun x208 =>
  br x208 (
    some false) (
    br (ltI s200 0) (
      some true) (
      bnd (idx s171 s200) fun x215 =>
      some (ltI x203 x215)))
noncomputable def m38_17 (s200 : Int) (s201 : Int) (v222 : Bool) : Option Int :=
  br v222 (
    some s201) (
    some s200)
noncomputable def m38_13b (p174 : Int) (s171 : List Int) (s172 : List Bool) (p : (Int × Int)) : Option (Ctl (Int × Int) Int) :=
  sel2 p fun s200 s201 =>
  br (ltI s201 p174) (
    bnd (idx s171 s201) fun x203 =>
    bnd (m38_16 s200 s201 x203 s171 s172) fun v222 =>
    bnd (m38_17 s200 s201 v222) fun v226 =>
    some (.nxt (v226, wadd .i64 s201 1))) (
    some (.out s200))
noncomputable def m38_21 (s274 : Int) (r280 : Bool) (p235 : List Bool) : Option Bool :=
  br r280 (
    bnd (idx p235 s274) fun x282 =>
    some (!x282)) (
    some false)
noncomputable def m38_22 (v229 : Int) (s274 : Int) (r279 : Int) (v289 : Bool) (a0 : Algebra) (s275 : List Int) : Option (List Int) :=
  br v289 (
    bnd (idx s275 s274) fun x291 =>
    bnd (idx a0.apply r279) fun x296 =>
    bnd (idx s275 v229) fun x301 =>
    bnd (idx x296 x301) fun x306 =>
    some (s275.set s274.toNat (wmin x291 x306))) (
    some s275)
noncomputable def m38_18b (a1 : (List Arc)) (v229 : Int) (a0 : Algebra) (p235 : List Bool) (p : (Int × List Int)) : Option (Ctl (Int × List Int) (List Int)) :=
  sel2 p fun s274 s275 =>
  br (ltI s274 6) (
    bnd (m66 a1 s274 v229) fun p => sel2 p fun r279 r280 =>
    bnd (m38_21 s274 r280 p235) fun v289 =>
    bnd (m38_22 v229 s274 r279 v289 a0 s275) fun v313 =>
    some (.nxt (wadd .i64 s274 1, v313))) (
    some (.out s275))
noncomputable def m38_2b (a1 : (List Arc)) (a0 : Algebra) (p : (Int × List Int × List Bool)) : Option (Ctl (Int × List Int × List Bool) (List Int)) :=
  sel3 p fun s170 s171 s172 =>
  br (ltI s170 6) (
    bnd (loopP (m38_13b (↑s171.length : Int) s171 s172) ((-1), 0)) fun v229 =>
    bnd (idx s172 v229) fun x230 =>
    bnd (loopP (m38_18b a1 v229 a0 (s172.set v229.toNat true)) (0, s171)) fun v316 =>
    some (.nxt (wadd .i64 s170 1, v316, (s172.set v229.toNat true)))) (
    some (.out s171))
noncomputable def m38 (a0 : Algebra) (a1 : (List Arc)) (a2 : Int) : Option ((List Int) × Bool) :=
  bnd (m38_1 a1 a2 a0) fun v10 =>
  br v10 (
    some ([], false)) (
    bnd (m51 a0) fun r14 =>
    bnd (m70 [r14] 6) fun r17 =>
    bnd (idx r17 a2) fun x18 =>
    ck (0 ≤ 6 ∧ 6 ≤ 6 ∧ 6 ≤ 4294967296) <|
    bnd (loopP (m38_2b a1 a0) (0, r17.set a2.toNat 0, List.replicate 6 false)) fun v319 =>
    some (v319, true))
-- f31 laws.eqIntS
noncomputable def m31_1b (a0 : (List Int)) (a1 : (List Int)) (s14 : Int) : Option (Ctl Int (Unit ⊕ Unit)) :=
  br (ltI s14 (↑a0.length : Int)) (
    bnd (idx a0 s14) fun x16 =>
    bnd (idx a1 s14) fun x21 =>
    br (eqI x16 x21) (
      some (.nxt (wadd .i64 s14 1))) (
      some (.out (.inr ())))) (
    some (.out (.inl ())))
noncomputable def m31 (a0 : (List Int)) (a1 : (List Int)) : Option Bool :=
  br (eqI (↑a0.length : Int) (↑a1.length : Int)) (
    bnd (loopP (m31_1b a0 a1) 0) fun o => selS o (fun _ =>
      some true) (fun _ =>
      some false)) (
    some false)
-- f54 laws.eqIntSS
noncomputable def m54_1b (a0 : (List (List Int))) (a1 : (List (List Int))) (s17 : Int) : Option (Ctl Int (Unit ⊕ Unit)) :=
  br (ltI s17 (↑a0.length : Int)) (
    bnd (idx a0 s17) fun x19 =>
    bnd (idx a1 s17) fun x24 =>
    bnd (m31 x19 x24) fun r31 =>
    br r31 (
      some (.nxt (wadd .i64 s17 1))) (
      some (.out (.inr ())))) (
    some (.out (.inl ())))
noncomputable def m54 (a0 : (List (List Int))) (a1 : (List (List Int))) : Option Bool :=
  br (eqI (↑a0.length : Int) (↑a1.length : Int)) (
    bnd (loopP (m54_1b a0 a1) 0) fun o => selS o (fun _ =>
      some true) (fun _ =>
      some false)) (
    some false)
-- f16 laws.eqAlgebra
noncomputable def m16 (a0 : Algebra) (a1 : Algebra) : Option Bool :=
  br (eqI a0.weights a1.weights) (
    bnd (m54 a0.apply a1.apply) fun r4 =>
    br r4 (
      some true) (
      some false)) (
    some false)
-- f67 laws.eqArc
noncomputable def m67 (a0 : Arc) (a1 : Arc) : Option Bool :=
  br (eqI a0.from_ a1.from_) (
    br (eqI a0.to a1.to) (
      br (eqI a0.label a1.label) (
        some true) (
        some false)) (
      some false)) (
    some false)
-- f30 laws.eqArcS
noncomputable def m30_1b (a0 : (List Arc)) (a1 : (List Arc)) (s17 : Int) : Option (Ctl Int (Unit ⊕ Unit)) :=
  br (ltI s17 (↑a0.length : Int)) (
    bnd (idx a0 s17) fun x19 =>
    bnd (idx a1 s17) fun x24 =>
    bnd (m67 x19 x24) fun r31 =>
    br r31 (
      some (.nxt (wadd .i64 s17 1))) (
      some (.out (.inr ())))) (
    some (.out (.inl ())))
noncomputable def m30 (a0 : (List Arc)) (a1 : (List Arc)) : Option Bool :=
  br (eqI (↑a0.length : Int) (↑a1.length : Int)) (
    bnd (loopP (m30_1b a0 a1) 0) fun o => selS o (fun _ =>
      some true) (fun _ =>
      some false)) (
    some false)
-- f35 laws.markIntS
noncomputable def m35_1b (p : (Int × Int × List Int)) : Option (Ctl (Int × Int × List Int) (Int × List Int)) :=
  sel3 p fun s7 s8 s9 =>
  br (ltI s8 (↑s9.length : Int)) (
    bnd (idx s9 s8) fun x11 =>
    some (.nxt (wadd .i64 s7 1, wadd .i64 s8 1, s9.set s8.toNat s7))) (
    some (.out (s7, s9)))
noncomputable def m35 (a0 : (List Int)) (a1 : Int) : Option (Int × List Int) :=
  bnd (loopP (m35_1b) (a1, 0, a0)) fun p => sel2 p fun v18 v19 =>
  some (v18, v19)
-- f57 laws.markIntSS
noncomputable def m57_1b (p : (Int × Int × List (List Int))) : Option (Ctl (Int × Int × List (List Int)) (Int × List (List Int))) :=
  sel3 p fun s12 s13 s14 =>
  br (ltI s13 (↑s14.length : Int)) (
    bnd (idx s14 s13) fun x16 =>
    bnd (m35 x16 s12) fun p => sel2 p fun r23 r24 =>
    ck (r24.length = x16.length) <|
    some (.nxt (r23, wadd .i64 s13 1, s14.set s13.toNat r24))) (
    some (.out (s12, s14)))
noncomputable def m57 (a0 : (List (List Int))) (a1 : Int) : Option (Int × List (List Int)) :=
  bnd (loopP (m57_1b) (a1, 0, a0)) fun p => sel2 p fun v28 v29 =>
  some (v28, v29)
-- f23 laws.markAlgebra
noncomputable def m23 (a0 : Algebra) (a1 : Int) : Option (Int × List (List Int)) :=
  bnd (m57 a0.apply a1) fun p => sel2 p fun r3 r4 =>
  ck (r4.length = a0.apply.length) <|
  some (r3, r4)
-- f34 laws.markArcS
noncomputable def m34_1b (p : (Int × Int × List Arc)) : Option (Ctl (Int × Int × List Arc) (Int × List Arc)) :=
  sel3 p fun s7 s8 s9 =>
  br (ltI s8 (↑s9.length : Int)) (
    bnd (idx s9 s8) fun x11 =>
    some (.nxt (wadd .i64 (wadd .i64 (wadd .i64 s7 1) 1) 1, wadd .i64 s8 1, ((s9.set s8.toNat (⟨s7, x11.to, x11.label⟩ : Arc)).set s8.toNat (⟨s7, wadd .i64 s7 1, x11.label⟩ : Arc)).set s8.toNat (⟨s7, wadd .i64 s7 1, wadd .i64 (wadd .i64 s7 1) 1⟩ : Arc)))) (
    some (.out (s7, s9)))
noncomputable def m34 (a0 : (List Arc)) (a1 : Int) : Option (Int × List Arc) :=
  bnd (loopP (m34_1b) (a1, 0, a0)) fun p => sel2 p fun v18 v19 =>
  some (v18, v19)
-- f36 laws.heldIntS
noncomputable def m36_1b (a0 : (List Int)) (p : (Int × Int)) : Option (Ctl (Int × Int) (Int ⊕ Unit)) :=
  sel2 p fun s8 s9 =>
  br (ltI s9 (↑a0.length : Int)) (
    bnd (idx a0 s9) fun x11 =>
    br (eqI x11 s8) (
      some (.nxt (wadd .i64 s8 1, wadd .i64 s9 1))) (
      some (.out (.inr ())))) (
    some (.out (.inl s8)))
noncomputable def m36 (a0 : (List Int)) (a1 : Int) : Option Int :=
  bnd (loopP (m36_1b a0) (a1, 0)) fun o => selS o (fun v19 =>
    some v19) (fun _ =>
    some (-1))
-- f9 laws.FnExactBestTo
noncomputable def m9_1 (r18 : Bool) (r26 : Bool) (r17 : (List Int)) (r25 : (List Int)) : Option Bool :=
  bnd (m31 r25 r17) fun r29 =>
  br r29 (
    some (!eqB r26 r18)) (
    some true)
noncomputable def m9_2 (r18 : Bool) (r26 : Bool) (r54 : Int) (r17 : (List Int)) (r25 : (List Int)) : Option Bool :=
  br (ltI r54 0) (
    some true) (
    bnd (m31 r25 r17) fun r60 =>
    br r60 (
      some (!eqB r26 r18)) (
      some true))
noncomputable def m9_3 (r18 : Bool) (r26 : Bool) (r17 : (List Int)) (r25 : (List Int)) : Option Bool :=
  bnd (m31 r25 r17) fun r84 =>
  br r84 (
    some (!eqB r26 r18)) (
    some true)
noncomputable def m9 (a0 : Algebra) (a1 : (List Arc)) (a2 : Int) : Option Bool :=
  bnd (m12 a0 1048576) fun r3 =>
  br (ltI r3 0) (
    some true) (
    bnd (m25 a1 r3) fun r7 =>
    br (ltI r7 0) (
      some true) (
      bnd (m14 a0) fun r11 =>
      bnd (m27 a1) fun r14 =>
      bnd (m37 r11 r14 a2) fun p => sel2 p fun r17 r18 =>
      bnd (m38 r11 r14 a2) fun p => sel2 p fun r25 r26 =>
      bnd (m9_1 r18 r26 r17 r25) fun v33 =>
      br v33 (
        some false) (
        bnd (m16 r11 r11) fun r39 =>
        br r39 (
          bnd (m30 r14 r14) fun r45 =>
          br r45 (
            bnd (m23 r11 1) fun p => sel2 p fun r49 r50 =>
            ck (r50.length = r11.apply.length) <|
            bnd (m34 r14 r49) fun p => sel2 p fun r54 r55 =>
            ck (r55.length = r14.length) <|
            bnd (m9_2 r18 r26 r54 r17 r25) fun v64 =>
            br v64 (
              some false) (
              bnd (m35 r25 1) fun p => sel2 p fun r68 r69 =>
              ck (r69.length = r25.length) <|
              bnd (m36 r69 1) fun r73 =>
              br (ltI r73 0) (
                some false) (
                br (eqI r73 r68) (
                  bnd (m9_3 r18 r26 r17 r25) fun v88 =>
                  br v88 (
                    some false) (
                    some true)) (
                  some false)))) (
            some false)) (
          some false))))
end Go.Pi.Ytbohlpligkfkiaa.BestTo
