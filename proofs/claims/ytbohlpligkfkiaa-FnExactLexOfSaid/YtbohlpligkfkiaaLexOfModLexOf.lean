/- What functions of the program answer, and that the law answers true at every input; no condition -/
import Derived.Test.YtbohlpligkfkiaaPiD
set_option linter.all false
/- Functions of the program, in plain Lean. -/
namespace Go.Pi.Ytbohlpligkfkiaa.LexOf
open Go Go.Pi
set_option maxRecDepth 100000
set_option linter.all false
def wfInt (x : Int) : Prop := -9223372036854775808 ≤ x ∧ x ≤ 9223372036854775807
def wfLInt (x : (List Int)) : Prop := x.length ≤ 9223372036854775807 ∧ ∀ y ∈ x, wfInt y
def wfLLInt (x : (List (List Int))) : Prop := x.length ≤ 9223372036854775807 ∧ ∀ y ∈ x, wfLInt y
structure Algebra where
  weights : Int
  apply : (List (List Int))
  deriving Inhabited, DecidableEq
def wfAlgebra (x : Algebra) : Prop := wfInt x.weights ∧ wfLLInt x.apply
def wfBool (x : Bool) : Prop := True
-- f76 laws.szIntS
noncomputable def m76 (a0 : (List Int)) (a1 : Int) : Option Int :=
  br (ltI (wsub .i64 a1 (↑a0.length : Int)) 0) (
    some (-1)) (
    some (wsub .i64 a1 (↑a0.length : Int)))
-- f44 laws.szIntSS
noncomputable def m44_1b (a0 : (List (List Int))) (p : (Int × Int)) : Option (Ctl (Int × Int) (Int ⊕ Unit)) :=
  sel2 p fun s13 s14 =>
  br (ltI s14 (↑a0.length : Int)) (
    bnd (idx a0 s14) fun x16 =>
    bnd (m76 x16 s13) fun r23 =>
    br (ltI r23 0) (
      some (.out (.inr ()))) (
      some (.nxt (r23, wadd .i64 s14 1)))) (
    some (.out (.inl s13)))
noncomputable def m44 (a0 : (List (List Int))) (a1 : Int) : Option Int :=
  br (ltI (wsub .i64 a1 (↑a0.length : Int)) 0) (
    some (-1)) (
    bnd (loopP (m44_1b a0) (wsub .i64 a1 (↑a0.length : Int), 0)) fun o => selS o (fun v27 =>
      some v27) (fun _ =>
      some (-1)))
-- f12 laws.szAlgebra
noncomputable def m12 (a0 : Algebra) (a1 : Int) : Option Int :=
  bnd (m44 a0.apply a1) fun r3 =>
  br (ltI r3 0) (
    some (-1)) (
    some r3)
-- f28 laws.toIntS
noncomputable def m28_1b (a0 : (List Int)) (p : (Int × List Int)) : Option (Ctl (Int × List Int) (List Int)) :=
  sel2 p fun s14 s15 =>
  br (ltI s14 (↑a0.length : Int)) (
    bnd (idx a0 s14) fun x17 =>
    bnd (idx s15 s14) fun x22 =>
    some (.nxt (wadd .i64 s14 1, s15.set s14.toNat x17))) (
    some (.out s15))
noncomputable def m28 (a0 : (List Int)) : Option (List Int) :=
  ck (0 ≤ (↑a0.length : Int) ∧ (↑a0.length : Int) ≤ (↑a0.length : Int) ∧ (↑a0.length : Int) ≤ 4294967296) <|
  bnd (loopP (m28_1b a0) (0, List.replicate a0.length 0)) fun v29 =>
  some v29
-- f47 laws.toIntSS
noncomputable def m47_1b (a0 : (List (List Int))) (p : (Int × List (List Int))) : Option (Ctl (Int × List (List Int)) (List (List Int))) :=
  sel2 p fun s17 s18 =>
  br (ltI s17 (↑a0.length : Int)) (
    bnd (idx a0 s17) fun x20 =>
    bnd (m28 x20) fun r27 =>
    bnd (idx s18 s17) fun x28 =>
    some (.nxt (wadd .i64 s17 1, s18.set s17.toNat r27))) (
    some (.out s18))
noncomputable def m47 (a0 : (List (List Int))) : Option (List (List Int)) :=
  ck (0 ≤ (↑a0.length : Int) ∧ (↑a0.length : Int) ≤ (↑a0.length : Int) ∧ (↑a0.length : Int) ≤ 4294967296) <|
  bnd (loopP (m47_1b a0) (0, List.replicate a0.length [])) fun v35 =>
  some v35
-- f14 laws.toAlgebra
noncomputable def m14 (a0 : Algebra) : Option Algebra :=
  bnd (m47 a0.apply) fun r3 =>
  some (⟨a0.weights, r3⟩ : Algebra)
-- f45 spec.l1In
noncomputable def m45_1 (a0 : Int) (a1 : Int) (a2 : Int) : Option Bool :=
  br (leI a1 a0) (
    some (leI a0 a2)) (
    some false)
noncomputable def m45 (a0 : Int) (a1 : Int) (a2 : Int) : Option Bool :=
  bnd (m45_1 a0 a1 a2) fun v4 =>
  some v4
-- f46 spec.l9Apply
noncomputable def m46_3 (a1 : Int) (x15 : Int) : Option Bool :=
  br (ltI x15 0) (
    some true) (
    some (leI a1 x15))
noncomputable def m46_1b (a0 : (List Int)) (a1 : Int) (p1 : Int) (s13 : Int) : Option (Ctl Int (Unit ⊕ Unit)) :=
  br (ltI s13 p1) (
    bnd (idx a0 s13) fun x15 =>
    bnd (m46_3 a1 x15) fun v23 =>
    br v23 (
      some (.out (.inr ()))) (
      some (.nxt (wadd .i64 s13 1)))) (
    some (.out (.inl ())))
noncomputable def m46_4 (a0 : (List Int)) (a1 : Int) : Option Bool :=
  br (eqI (↑a0.length : Int) a1) (
    bnd (idx a0 (wsub .i64 a1 1)) fun x28 =>
    some (eqI x28 (wsub .i64 a1 1))) (
    some false)
noncomputable def m46 (a0 : (List Int)) (a1 : Int) : Option Bool :=
  bnd (loopP (m46_1b a0 a1 (↑a0.length : Int)) 0) fun o => selS o (fun _ =>
    bnd (m46_4 a0 a1) fun v35 =>
    some v35) (fun _ =>
    some false)
-- f13 spec.GoodAlgebra
noncomputable def m13_1 (a0 : Algebra) : Option Bool :=
  bnd (m45 a0.weights 2 12) fun r3 =>
  br r3 (
    bnd (m45 (↑a0.apply.length : Int) 1 4) fun r7 =>
    some (!r7)) (
    some true)
noncomputable def m13_2b (a0 : Algebra) (p12 : Int) (s23 : Int) : Option (Ctl Int (Unit ⊕ Unit)) :=
  br (ltI s23 p12) (
    bnd (idx a0.apply s23) fun x25 =>
    bnd (m46 x25 a0.weights) fun r32 =>
    br r32 (
      some (.nxt (wadd .i64 s23 1))) (
      some (.out (.inr ())))) (
    some (.out (.inl ())))
noncomputable def m13 (a0 : Algebra) : Option Bool :=
  bnd (m13_1 a0) fun v10 =>
  br v10 (
    some false) (
    bnd (loopP (m13_2b a0 (↑a0.apply.length : Int)) 0) fun o => selS o (fun _ =>
      some true) (fun _ =>
      some false))
-- f21 spec.LexOf
noncomputable def m21_1 (a0 : Algebra) (a1 : Algebra) : Option Bool :=
  bnd (m13 a0) fun r3 =>
  br r3 (
    bnd (m13 a1) fun r7 =>
    br r7 (
      some (!(eqI (↑a0.apply.length : Int) (↑a1.apply.length : Int)))) (
      some true)) (
    some true)
noncomputable def m21_11 (p14 : Int) (p15 : Int) (x117 : Int) (x123 : Int) : Option Bool :=
  br (eqI x117 p14) (
    some true) (
    some (eqI x123 p15))
noncomputable def m21_12 (p14 : Int) (p15 : Int) (x117 : Int) (x123 : Int) (v131 : Bool) (s114 : List Int) : Option (List Int) :=
  br v131 (
    ck (s114.length + 1 ≤ 4294967296) <|
    some (s114 ++ [wmul .i64 p14 p15])) (
    ck (s114.length + 1 ≤ 4294967296) <|
    some (s114 ++ [wadd .i64 (wmul .i64 x117 p15) x123]))
noncomputable def m21_8b (p14 : Int) (p15 : Int) (x82 : (List Int)) (x87 : (List Int)) (p : (Int × List Int)) : Option (Ctl (Int × List Int) (List Int)) :=
  sel2 p fun s113 s114 =>
  br (ltI s113 (wmul .i64 p14 p15)) (
    ck (¬ p15 = 0) <|
    bnd (idx x82 (wquo .i64 s113 p15)) fun x117 =>
    ck (¬ p15 = 0) <|
    bnd (idx x87 (wrem .i64 s113 p15)) fun x123 =>
    bnd (m21_11 p14 p15 x117 x123) fun v131 =>
    bnd (m21_12 p14 p15 x117 x123 v131 s114) fun v137 =>
    some (.nxt (wadd .i64 s113 1, v137))) (
    some (.out s114))
noncomputable def m21_2b (p14 : Int) (p15 : Int) (a0 : Algebra) (p16 : Int) (a1 : Algebra) (p : (Int × List (List Int))) : Option (Ctl (Int × List (List Int)) (List (List Int))) :=
  sel2 p fun s79 s80 =>
  br (ltI s79 p16) (
    bnd (idx a0.apply s79) fun x82 =>
    bnd (idx a1.apply s79) fun x87 =>
    bnd (loopP (m21_8b p14 p15 x82 x87) (0, [])) fun v140 =>
    ck (v140.length + 1 ≤ 4294967296) <|
    ck (s80.length + 1 ≤ 4294967296) <|
    some (.nxt (wadd .i64 s79 1, s80 ++ [v140 ++ [wmul .i64 p14 p15]]))) (
    some (.out s80))
noncomputable def m21 (a0 : Algebra) (a1 : Algebra) : Option (Algebra × Bool) :=
  bnd (m21_1 a0 a1) fun v11 =>
  br v11 (
    some ((⟨0, []⟩ : Algebra), false)) (
    br (ltI 12 (wadd .i64 (wmul .i64 (wsub .i64 a0.weights 1) (wsub .i64 a1.weights 1)) 1)) (
      some ((⟨0, []⟩ : Algebra), false)) (
      bnd (loopP (m21_2b (wsub .i64 a0.weights 1) (wsub .i64 a1.weights 1) a0 (↑a0.apply.length : Int) a1) (0, [])) fun v145 =>
      some ((⟨(wadd .i64 (wmul .i64 (wsub .i64 a0.weights 1) (wsub .i64 a1.weights 1)) 1), v145⟩ : Algebra), true)))
-- f48 impl.within
noncomputable def m48_1 (a0 : Int) (a1 : Int) (a2 : Int) : Option Bool :=
  br (leI a1 a0) (
    some (leI a0 a2)) (
    some false)
noncomputable def m48 (a0 : Int) (a1 : Int) (a2 : Int) : Option Bool :=
  bnd (m48_1 a0 a1 a2) fun v4 =>
  some v4
-- f77 slices.IndexFunc[[][]int,[]int]
noncomputable def m77_1b (a0 : (List (List Int))) (p1 : Int) (a1 : ((List Int) → Option Bool)) (s12 : Int) : Option (Ctl Int (Unit ⊕ Int)) :=
  br (ltI s12 p1) (
    bnd (idx a0 s12) fun x14 =>
    bnd (a1 x14) fun r19 =>
    br r19 (
      some (.out (.inr s12))) (
      some (.nxt (wadd .i64 s12 1)))) (
    some (.out (.inl ())))
noncomputable def m77 (a0 : (List (List Int))) (a1 : ((List Int) → Option Bool)) : Option Int :=
  bnd (loopP (m77_1b a0 (↑a0.length : Int) a1) 0) fun o => selS o (fun _ =>
    some (-1)) (fun v25 =>
    some v25)
-- f49 slices.ContainsFunc[[][]int,[]int]
noncomputable def m49 (a0 : (List (List Int))) (a1 : ((List Int) → Option Bool)) : Option Bool :=
  bnd (m77 a0 a1) fun r3 =>
  some (leI 0 r3)
-- f51 (impl.Algebra).worst
noncomputable def m51 (a0 : Algebra) : Option Int :=
  some (wsub .i64 a0.weights 1)
-- f78 slices.IndexFunc[[]int,int]
noncomputable def m78_1b (a0 : (List Int)) (p1 : Int) (a1 : (Int → Option Bool)) (s12 : Int) : Option (Ctl Int (Unit ⊕ Int)) :=
  br (ltI s12 p1) (
    bnd (idx a0 s12) fun x14 =>
    bnd (a1 x14) fun r19 =>
    br r19 (
      some (.out (.inr s12))) (
      some (.nxt (wadd .i64 s12 1)))) (
    some (.out (.inl ())))
noncomputable def m78 (a0 : (List Int)) (a1 : (Int → Option Bool)) : Option Int :=
  bnd (loopP (m78_1b a0 (↑a0.length : Int) a1) 0) fun o => selS o (fun _ =>
    some (-1)) (fun v25 =>
    some v25)
-- f52 slices.ContainsFunc[[]int,int]
noncomputable def m52 (a0 : (List Int)) (a1 : (Int → Option Bool)) : Option Bool :=
  bnd (m78 a0 a1) fun r3 =>
  some (leI 0 r3)
-- f53 impl.GoodAlgebra$1$1
noncomputable def m53 (a0 : Int) (a1 : Algebra) : Option Bool :=
  bnd (m51 a1) fun r3 =>
  bnd (m48 a0 0 r3) fun r6 =>
  some (!r6)
-- f50 impl.GoodAlgebra$1
noncomputable def m50_1 (a0 : (List Int)) (a1 : Algebra) : Option Bool :=
  br (eqI (↑a0.length : Int) a1.weights) (
    bnd (m51 a1) fun r4 =>
    bnd (idx a0 r4) fun x5 =>
    br (eqI x5 r4) (
      bnd (m52 a0 (fun y0 => m53 y0 a1)) fun r15 =>
      some r15) (
      some true)) (
    some true)
noncomputable def m50 (a0 : (List Int)) (a1 : Algebra) : Option Bool :=
  bnd (m50_1 a0 a1) fun v18 =>
  some v18
-- f15 impl.GoodAlgebra
noncomputable def m15_1 (a0 : Algebra) : Option Bool :=
  bnd (m48 a0.weights 2 12) fun r3 =>
  br r3 (
    bnd (m48 (↑a0.apply.length : Int) 1 4) fun r7 =>
    some (!r7)) (
    some true)
noncomputable def m15 (a0 : Algebra) : Option Bool :=
  bnd (m15_1 a0) fun v10 =>
  br v10 (
    some false) (
    bnd (m49 a0.apply (fun y0 => m50 y0 a0)) fun r14 =>
    some (!r14))
-- f22 impl.LexOf
noncomputable def m22_1 (a0 : Algebra) (a1 : Algebra) : Option Bool :=
  bnd (m15 a0) fun r3 =>
  br r3 (
    bnd (m15 a1) fun r7 =>
    br r7 (
      some (!(eqI (↑a0.apply.length : Int) (↑a1.apply.length : Int)))) (
      some true)) (
    some true)
noncomputable def m22_23 (x349 : Int) (x359 : Int) (a0 : Algebra) (a1 : Algebra) : Option Bool :=
  bnd (m51 a0) fun r366 =>
  br (eqI x349 r366) (
    some true) (
    bnd (m51 a1) fun r370 =>
    some (eqI x359 r370))
noncomputable def m22_24 (x349 : Int) (x359 : Int) (v373 : Bool) (a1 : Algebra) (p21 : Int) (s209 : List (List Int)) (s347 : List Int) : Option (List Int) :=
  br v373 (
    bnd (m51 (⟨p21, s209⟩ : Algebra)) fun r377 =>
    ck (s347.length + 1 ≤ 4294967296) <|
    some (s347 ++ [r377])) (
    bnd (m51 a1) fun r381 =>
    ck (s347.length + 1 ≤ 4294967296) <|
    some (s347 ++ [wadd .i64 (wmul .i64 x349 r381) x359]))
noncomputable def m22_20b (s208 : Int) (x211 : (List Int)) (s302 : Int) (a0 : Algebra) (r307 : Int) (a1 : Algebra) (p21 : Int) (s209 : List (List Int)) (p : (Int × List Int)) : Option (Ctl (Int × List Int) (List Int)) :=
  sel2 p fun s346 s347 =>
  br (ltI s346 r307) (
    bnd (idx x211 s302) fun x349 =>
    bnd (idx a1.apply s208) fun x354 =>
    bnd (idx x354 s346) fun x359 =>
    bnd (m22_23 x349 x359 a0 a1) fun v373 =>
    bnd (m22_24 x349 x359 v373 a1 p21 s209 s347) fun v385 =>
    some (.nxt (wadd .i64 s346 1, v385))) (
    some (.out s347))
noncomputable def m22_14b (s208 : Int) (x211 : (List Int)) (a0 : Algebra) (r218 : Int) (a1 : Algebra) (p21 : Int) (s209 : List (List Int)) (p : (Int × List Int)) : Option (Ctl (Int × List Int) (List Int)) :=
  sel2 p fun s302 s303 =>
  br (ltI s302 r218) (
    bnd (m51 a1) fun r307 =>
    bnd (loopP (m22_20b s208 x211 s302 a0 r307 a1 p21 s209) (0, s303)) fun v388 =>
    some (.nxt (wadd .i64 s302 1, v388))) (
    some (.out s303))
noncomputable def m22_2b (a0 : Algebra) (p20 : Int) (a1 : Algebra) (p21 : Int) (p : (Int × List (List Int))) : Option (Ctl (Int × List (List Int)) (List (List Int))) :=
  sel2 p fun s208 s209 =>
  br (ltI s208 p20) (
    bnd (idx a0.apply s208) fun x211 =>
    bnd (m51 a0) fun r218 =>
    bnd (loopP (m22_14b s208 x211 a0 r218 a1 p21 s209) (0, [])) fun v391 =>
    bnd (m51 (⟨p21, s209⟩ : Algebra)) fun r394 =>
    ck (v391.length + 1 ≤ 4294967296) <|
    ck (s209.length + 1 ≤ 4294967296) <|
    some (.nxt (wadd .i64 s208 1, s209 ++ [v391 ++ [r394]]))) (
    some (.out s209))
noncomputable def m22 (a0 : Algebra) (a1 : Algebra) : Option (Algebra × Bool) :=
  bnd (m22_1 a0 a1) fun v11 =>
  br v11 (
    some ((⟨0, []⟩ : Algebra), false)) (
    bnd (m51 a0) fun r15 =>
    bnd (m51 a1) fun r18 =>
    br (ltI 12 (wadd .i64 (wmul .i64 r15 r18) 1)) (
      some ((⟨0, []⟩ : Algebra), false)) (
      bnd (loopP (m22_2b a0 (↑a0.apply.length : Int) a1 (wadd .i64 (wmul .i64 r15 r18) 1)) (0, [])) fun v399 =>
      some ((⟨(wadd .i64 (wmul .i64 r15 r18) 1), v399⟩ : Algebra), true)))
-- f31 laws.eqIntS
noncomputable def m31_1b (a0 : (List Int)) (a1 : (List Int)) (s14 : Int) : Option (Ctl Int (Unit ⊕ Unit)) :=
  br (ltI s14 (↑a0.length : Int)) (
    bnd (idx a0 s14) fun x16 =>
    bnd (idx a1 s14) fun x21 =>
    br (eqI x16 x21) (
      some (.nxt (wadd .i64 s14 1))) (
      some (.out (.inr ())))) (
    some (.out (.inl ())))
noncomputable def m31 (a0 : (List Int)) (a1 : (List Int)) : Option Bool :=
  br (eqI (↑a0.length : Int) (↑a1.length : Int)) (
    bnd (loopP (m31_1b a0 a1) 0) fun o => selS o (fun _ =>
      some true) (fun _ =>
      some false)) (
    some false)
-- f54 laws.eqIntSS
noncomputable def m54_1b (a0 : (List (List Int))) (a1 : (List (List Int))) (s17 : Int) : Option (Ctl Int (Unit ⊕ Unit)) :=
  br (ltI s17 (↑a0.length : Int)) (
    bnd (idx a0 s17) fun x19 =>
    bnd (idx a1 s17) fun x24 =>
    bnd (m31 x19 x24) fun r31 =>
    br r31 (
      some (.nxt (wadd .i64 s17 1))) (
      some (.out (.inr ())))) (
    some (.out (.inl ())))
noncomputable def m54 (a0 : (List (List Int))) (a1 : (List (List Int))) : Option Bool :=
  br (eqI (↑a0.length : Int) (↑a1.length : Int)) (
    bnd (loopP (m54_1b a0 a1) 0) fun o => selS o (fun _ =>
      some true) (fun _ =>
      some false)) (
    some false)
-- f16 laws.eqAlgebra
noncomputable def m16 (a0 : Algebra) (a1 : Algebra) : Option Bool :=
  br (eqI a0.weights a1.weights) (
    bnd (m54 a0.apply a1.apply) fun r4 =>
    br r4 (
      some true) (
      some false)) (
    some false)
-- f35 laws.markIntS
noncomputable def m35_1b (p : (Int × Int × List Int)) : Option (Ctl (Int × Int × List Int) (Int × List Int)) :=
  sel3 p fun s7 s8 s9 =>
  br (ltI s8 (↑s9.length : Int)) (
    bnd (idx s9 s8) fun x11 =>
    some (.nxt (wadd .i64 s7 1, wadd .i64 s8 1, s9.set s8.toNat s7))) (
    some (.out (s7, s9)))
noncomputable def m35 (a0 : (List Int)) (a1 : Int) : Option (Int × List Int) :=
  bnd (loopP (m35_1b) (a1, 0, a0)) fun p => sel2 p fun v18 v19 =>
  some (v18, v19)
-- f57 laws.markIntSS
noncomputable def m57_1b (p : (Int × Int × List (List Int))) : Option (Ctl (Int × Int × List (List Int)) (Int × List (List Int))) :=
  sel3 p fun s12 s13 s14 =>
  br (ltI s13 (↑s14.length : Int)) (
    bnd (idx s14 s13) fun x16 =>
    bnd (m35 x16 s12) fun p => sel2 p fun r23 r24 =>
    ck (r24.length = x16.length) <|
    some (.nxt (r23, wadd .i64 s13 1, s14.set s13.toNat r24))) (
    some (.out (s12, s14)))
noncomputable def m57 (a0 : (List (List Int))) (a1 : Int) : Option (Int × List (List Int)) :=
  bnd (loopP (m57_1b) (a1, 0, a0)) fun p => sel2 p fun v28 v29 =>
  some (v28, v29)
-- f23 laws.markAlgebra
noncomputable def m23 (a0 : Algebra) (a1 : Int) : Option (Int × List (List Int)) :=
  bnd (m57 a0.apply a1) fun p => sel2 p fun r3 r4 =>
  ck (r4.length = a0.apply.length) <|
  some (r3, r4)
-- f36 laws.heldIntS
noncomputable def m36_1b (a0 : (List Int)) (p : (Int × Int)) : Option (Ctl (Int × Int) (Int ⊕ Unit)) :=
  sel2 p fun s8 s9 =>
  br (ltI s9 (↑a0.length : Int)) (
    bnd (idx a0 s9) fun x11 =>
    br (eqI x11 s8) (
      some (.nxt (wadd .i64 s8 1, wadd .i64 s9 1))) (
      some (.out (.inr ())))) (
    some (.out (.inl s8)))
noncomputable def m36 (a0 : (List Int)) (a1 : Int) : Option Int :=
  bnd (loopP (m36_1b a0) (a1, 0)) fun o => selS o (fun v19 =>
    some v19) (fun _ =>
    some (-1))
-- f58 laws.heldIntSS
noncomputable def m58_1b (a0 : (List (List Int))) (p : (Int × Int)) : Option (Ctl (Int × Int) (Int ⊕ Unit)) :=
  sel2 p fun s11 s12 =>
  br (ltI s12 (↑a0.length : Int)) (
    bnd (idx a0 s12) fun x14 =>
    bnd (m36 x14 s11) fun r21 =>
    br (ltI r21 0) (
      some (.out (.inr ()))) (
      some (.nxt (r21, wadd .i64 s12 1)))) (
    some (.out (.inl s11)))
noncomputable def m58 (a0 : (List (List Int))) (a1 : Int) : Option Int :=
  bnd (loopP (m58_1b a0) (a1, 0)) fun o => selS o (fun v25 =>
    some v25) (fun _ =>
    some (-1))
-- f24 laws.heldAlgebra
noncomputable def m24 (a0 : Algebra) (a1 : Int) : Option Int :=
  bnd (m58 a0.apply a1) fun r3 =>
  br (ltI r3 0) (
    some (-1)) (
    some r3)
-- f6 laws.FnExactLexOf
noncomputable def m6_1 (r18 : Bool) (r26 : Bool) (r17 : Algebra) (r25 : Algebra) : Option Bool :=
  bnd (m16 r25 r17) fun r29 =>
  br r29 (
    some (!eqB r26 r18)) (
    some true)
noncomputable def m6_2 (r18 : Bool) (r26 : Bool) (r54 : Int) (r17 : Algebra) (r25 : Algebra) : Option Bool :=
  br (ltI r54 0) (
    some true) (
    bnd (m16 r25 r17) fun r60 =>
    br r60 (
      some (!eqB r26 r18)) (
      some true))
noncomputable def m6_3 (r18 : Bool) (r26 : Bool) (r17 : Algebra) (r25 : Algebra) : Option Bool :=
  bnd (m16 r25 r17) fun r84 =>
  br r84 (
    some (!eqB r26 r18)) (
    some true)
noncomputable def m6 (a0 : Algebra) (a1 : Algebra) : Option Bool :=
  bnd (m12 a0 1048576) fun r3 =>
  br (ltI r3 0) (
    some true) (
    bnd (m12 a1 r3) fun r7 =>
    br (ltI r7 0) (
      some true) (
      bnd (m14 a0) fun r11 =>
      bnd (m14 a1) fun r14 =>
      bnd (m21 r11 r14) fun p => sel2 p fun r17 r18 =>
      bnd (m22 r11 r14) fun p => sel2 p fun r25 r26 =>
      bnd (m6_1 r18 r26 r17 r25) fun v33 =>
      br v33 (
        some false) (
        bnd (m16 r11 r11) fun r39 =>
        br r39 (
          bnd (m16 r14 r14) fun r45 =>
          br r45 (
            bnd (m23 r11 1) fun p => sel2 p fun r49 r50 =>
            ck (r50.length = r11.apply.length) <|
            bnd (m23 r14 r49) fun p => sel2 p fun r54 r55 =>
            ck (r55.length = r14.apply.length) <|
            bnd (m6_2 r18 r26 r54 r17 r25) fun v64 =>
            br v64 (
              some false) (
              bnd (m23 r25 1) fun p => sel2 p fun r68 r69 =>
              ck (r69.length = r25.apply.length) <|
              bnd (m24 (⟨r25.weights, r69⟩ : Algebra) 1) fun r73 =>
              br (ltI r73 0) (
                some false) (
                br (eqI r73 r68) (
                  bnd (m6_3 r18 r26 r17 r25) fun v88 =>
                  br v88 (
                    some false) (
                    some true)) (
                  some false)))) (
            some false)) (
          some false))))
end Go.Pi.Ytbohlpligkfkiaa.LexOf
