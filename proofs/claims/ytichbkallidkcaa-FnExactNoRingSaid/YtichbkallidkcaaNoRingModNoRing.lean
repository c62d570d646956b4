/- What functions of the program answer, and that the law answers true at every input; no condition -/
import Derived.Test.YtichbkallidkcaaPiC
set_option linter.all false
/- Functions of the program, in plain Lean. -/
namespace Go.Pi.Ytichbkallidkcaa.NoRing
open Go Go.Pi
set_option maxRecDepth 100000
set_option linter.all false
def wfInt (x : Int) : Prop := -9223372036854775808 ≤ x ∧ x ≤ 9223372036854775807
structure Rel where
  a : Int
  b : Int
  kind : Int
  deriving Inhabited, DecidableEq
def wfRel (x : Rel) : Prop := wfInt x.a ∧ wfInt x.b ∧ wfInt x.kind
def wfLRel (x : (List Rel)) : Prop := x.length ≤ 9223372036854775807 ∧ ∀ y ∈ x, wfRel y
def wfBool (x : Bool) : Prop := True
def wfLInt (x : (List Int)) : Prop := x.length ≤ 9223372036854775807 ∧ ∀ y ∈ x, wfInt y
-- f11 laws.szRelS
noncomputable def m11 (a0 : (List Rel)) (a1 : Int) : Option Int :=
  br (ltI (wsub .i64 a1 (↑a0.length : Int)) 0) (
    some (-1)) (
    some (wsub .i64 a1 (↑a0.length : Int)))
-- f40 laws.toRel
noncomputable def m40 (a0 : Rel) : Option Rel :=
  some a0
-- f13 laws.toRelS
noncomputable def m13_1b (a0 : (List Rel)) (p : (Int × List Rel)) : Option (Ctl (Int × List Rel) (List Rel)) :=
  sel2 p fun s17 s18 =>
  br (ltI s17 (↑a0.length : Int)) (
    bnd (idx a0 s17) fun x20 =>
    bnd (m40 x20) fun r27 =>
    bnd (idx s18 s17) fun x28 =>
    some (.nxt (wadd .i64 s17 1, s18.set s17.toNat r27))) (
    some (.out s18))
noncomputable def m13 (a0 : (List Rel)) : Option (List Rel) :=
  ck (0 ≤ (↑a0.length : Int) ∧ (↑a0.length : Int) ≤ (↑a0.length : Int) ∧ (↑a0.length : Int) ≤ 4294967296) <|
  bnd (loopP (m13_1b a0) (0, List.replicate a0.length (⟨0, 0, 0⟩ : Rel))) fun v35 =>
  some v35
-- f39 spec.l1In
noncomputable def m39_1 (a0 : Int) (a1 : Int) (a2 : Int) : Option Bool :=
  br (leI a1 a0) (
    some (leI a0 a2)) (
    some false)
noncomputable def m39 (a0 : Int) (a1 : Int) (a2 : Int) : Option Bool :=
  bnd (m39_1 a0 a1 a2) fun v4 =>
  some v4
-- f12 spec.GoodRels
noncomputable def m12_1 (a0 : Int) (a1 : (List Rel)) : Option Bool :=
  bnd (m39 a0 1 5) fun r3 =>
  br r3 (
    some (ltI 15 (↑a1.length : Int))) (
    some true)
noncomputable def m12_7 (a0 : Int) (x56 : Rel) : Option Bool :=
  br (ltI x56.a 0) (
    some true) (
    br (leI x56.b x56.a) (
      some true) (
      br (ltI a0 x56.b) (
        some true) (
        bnd (m39 x56.kind 1 3) fun r66 =>
        some (!r66))))
noncomputable def m12_10 (x56 : Rel) (x87 : Rel) : Option Bool :=
  br (eqI x87.a x56.a) (
    some (eqI x87.b x56.b)) (
    some false)
noncomputable def m12_8b (p72 : List Rel) (p73 : Int) (x56 : Rel) (s85 : Int) : Option (Ctl Int (Unit ⊕ Unit)) :=
  br (ltI s85 p73) (
    bnd (idx p72 s85) fun x87 =>
    bnd (m12_10 x56 x87) fun v95 =>
    br v95 (
      some (.out (.inr ()))) (
      some (.nxt (wadd .i64 s85 1)))) (
    some (.out (.inl ())))
noncomputable def m12_2b (a0 : Int) (a1 : (List Rel)) (p9 : Int) (s54 : Int) : Option (Ctl Int (Unit ⊕ Unit)) :=
  br (ltI s54 p9) (
    bnd (idx a1 s54) fun x56 =>
    bnd (m12_7 a0 x56) fun v69 =>
    br v69 (
      some (.out (.inr ()))) (
      ck (0 ≤ s54 ∧ s54 ≤ (↑a1.length : Int)) <|
      bnd (loopP (m12_8b (a1.take s54.toNat) (↑((a1.take s54.toNat).length) : Int) x56) 0) fun o => selS o (fun _ =>
        some (.nxt (wadd .i64 s54 1))) (fun _ =>
        some (.out (.inr ()))))) (
    some (.out (.inl ())))
noncomputable def m12 (a0 : Int) (a1 : (List Rel)) : Option Bool :=
  bnd (m12_1 a0 a1) fun v7 =>
  br v7 (
    some false) (
    bnd (loopP (m12_2b a0 a1 (↑a1.length : Int)) 0) fun o => selS o (fun _ =>
      some true) (fun _ =>
      some false))
-- f45 spec.l11Kind
noncomputable def m45_4 (a1 : Int) (a2 : Int) (x20 : Rel) : Option Bool :=
  br (eqI x20.a a1) (
    some (eqI x20.b a2)) (
    some false)
noncomputable def m45_5 (a1 : Int) (a2 : Int) (x20 : Rel) : Option Bool :=
  br (eqI x20.a a2) (
    some (eqI x20.b a1)) (
    some false)
noncomputable def m45_1b (a1 : Int) (a2 : Int) (a0 : (List Rel)) (p1 : Int) (s18 : Int) : Option (Ctl Int (Unit ⊕ Int)) :=
  br (ltI s18 p1) (
    bnd (idx a0 s18) fun x20 =>
    bnd (m45_4 a1 a2 x20) fun v28 =>
    br v28 (
      some (.out (.inr x20.kind))) (
      bnd (m45_5 a1 a2 x20) fun v33 =>
      br v33 (
        some (.out (.inr (wsub .i64 4 x20.kind)))) (
        some (.nxt (wadd .i64 s18 1))))) (
    some (.out (.inl ())))
noncomputable def m45 (a0 : (List Rel)) (a1 : Int) (a2 : Int) : Option Int :=
  bnd (loopP (m45_1b a1 a2 a0 (↑a0.length : Int)) 0) fun o => selS o (fun _ =>
    some 0) (fun v37 =>
    some v37)
-- f47 spec.l1Has
noncomputable def m47_1b (a1 : Int) (a0 : (List Int)) (p1 : Int) (s9 : Int) : Option (Ctl Int (Unit ⊕ Unit)) :=
  br (ltI s9 p1) (
    bnd (idx a0 s9) fun x11 =>
    br (eqI x11 a1) (
      some (.out (.inr ()))) (
      some (.nxt (wadd .i64 s9 1)))) (
    some (.out (.inl ())))
noncomputable def m47 (a0 : (List Int)) (a1 : Int) : Option Bool :=
  bnd (loopP (m47_1b a1 a0 (↑a0.length : Int)) 0) fun o => selS o (fun _ =>
    some false) (fun _ =>
    some true)
-- f20 spec.NoRing
noncomputable def m20_23 (s196 : Int) (p212 : Bool) (s197 : List Int) : Option (List Int) :=
  br p212 (
    ck (s197.length + 1 ≤ 4294967296) <|
    some (s197 ++ [s196])) (
    some s197)
noncomputable def m20_22 (a1 : (List Rel)) (s115 : Int) (s170 : Int) (s196 : Int) (s197 : List Int) : Option (List Int ⊕ Unit) :=
  bnd (idx s197 s170) fun x199 =>
  bnd (m45 a1 x199 s196) fun r206 =>
  br (eqI r206 1) (
    br (eqI s196 s115) (
      some (.inr ())) (
      bnd (m47 s197 s196) fun r211 =>
      bnd (m20_23 s196 (!r211) s197) fun v217 =>
      some (.inl v217))) (
    some (.inl s197))
noncomputable def m20_19b (a0 : Int) (a1 : (List Rel)) (s115 : Int) (s170 : Int) (p : (Int × List Int)) : Option (Ctl (Int × List Int) (List Int ⊕ Unit)) :=
  sel2 p fun s196 s197 =>
  br (leI s196 a0) (
    bnd (m20_22 a1 s115 s170 s196 s197) fun o => selS o (fun v220 =>
      some (.nxt (wadd .i64 s196 1, v220))) (fun _ =>
      some (.out (.inr ())))) (
    some (.out (.inl s197)))
noncomputable def m20_13b (a0 : Int) (a1 : (List Rel)) (s115 : Int) (p : (Int × List Int)) : Option (Ctl (Int × List Int) (Unit ⊕ Unit)) :=
  sel2 p fun s170 s171 =>
  br (ltI s170 (↑s171.length : Int)) (
    bnd (loopP (m20_19b a0 a1 s115 s170) (0, s171)) fun o => selS o (fun v223 =>
      some (.nxt (wadd .i64 s170 1, v223))) (fun _ =>
      some (.out (.inr ())))) (
    some (.out (.inl ())))
noncomputable def m20_1b (a0 : Int) (a1 : (List Rel)) (s115 : Int) : Option (Ctl Int (Unit ⊕ Unit)) :=
  br (leI s115 a0) (
    bnd (loopP (m20_13b a0 a1 s115) (0, [s115])) fun o => selS o (fun _ =>
      some (.nxt (wadd .i64 s115 1))) (fun _ =>
      some (.out (.inr ())))) (
    some (.out (.inl ())))
noncomputable def m20 (a0 : Int) (a1 : (List Rel)) : Option (Bool × Bool) :=
  bnd (m12 a0 a1) fun r3 =>
  br r3 (
    bnd (loopP (m20_1b a0 a1) 0) fun o => selS o (fun _ =>
      some (true, true)) (fun _ =>
      some (false, true))) (
    some (false, false))
-- f41 impl.within
noncomputable def m41_1 (a0 : Int) (a1 : Int) (a2 : Int) : Option Bool :=
  br (leI a1 a0) (
    some (leI a0 a2)) (
    some false)
noncomputable def m41 (a0 : Int) (a1 : Int) (a2 : Int) : Option Bool :=
  bnd (m41_1 a0 a1 a2) fun v4 =>
  some v4
-- f70 slices.IndexFunc[[]impl.Rel,impl.Rel]
noncomputable def m70_1b (a0 : (List Rel)) (p1 : Int) (a1 : (Rel → Option Bool)) (s12 : Int) : Option (Ctl Int (Unit ⊕ Int)) :=
  br (ltI s12 p1) (
    bnd (idx a0 s12) fun x14 =>
    bnd (a1 x14) fun r19 =>
    br r19 (
      some (.out (.inr s12))) (
      some (.nxt (wadd .i64 s12 1)))) (
    some (.out (.inl ())))
noncomputable def m70 (a0 : (List Rel)) (a1 : (Rel → Option Bool)) : Option Int :=
  bnd (loopP (m70_1b a0 (↑a0.length : Int) a1) 0) fun o => selS o (fun _ =>
    some (-1)) (fun v25 =>
    some v25)
-- f42 slices.ContainsFunc[[]impl.Rel,impl.Rel]
noncomputable def m42 (a0 : (List Rel)) (a1 : (Rel → Option Bool)) : Option Bool :=
  bnd (m70 a0 a1) fun r3 =>
  some (leI 0 r3)
-- f43 impl.GoodRels$1
noncomputable def m43_1 (a1 : Rel) (a0 : Rel) : Option Bool :=
  br (eqI a1.a a0.a) (
    some (eqI a1.b a0.b)) (
    some false)
noncomputable def m43 (a0 : Rel) (a1 : Rel) : Option Bool :=
  bnd (m43_1 a1 a0) fun v4 =>
  some v4
-- f14 impl.GoodRels
noncomputable def m14_1 (a0 : Int) (a1 : (List Rel)) : Option Bool :=
  bnd (m41 a0 1 5) fun r3 =>
  br r3 (
    some (ltI 15 (↑a1.length : Int))) (
    some true)
noncomputable def m14_4 (a0 : Int) (a1 : (List Rel)) (s36 : Int) (x38 : Rel) : Option Bool :=
  bnd (m41 x38.b 1 a0) fun r45 =>
  br r45 (
    bnd (m41 x38.a 0 (wsub .i64 x38.b 1)) fun r49 =>
    br r49 (
      bnd (m41 x38.kind 1 3) fun r53 =>
      br r53 (
        ck (0 ≤ s36 ∧ s36 ≤ (↑a1.length : Int)) <|
        bnd (m42 (a1.take s36.toNat) (fun y0 => m43 y0 x38)) fun r58 =>
        some r58) (
        some true)) (
      some true)) (
    some true)
noncomputable def m14_2b (a0 : Int) (a1 : (List Rel)) (p9 : Int) (s36 : Int) : Option (Ctl Int (Unit ⊕ Unit)) :=
  br (ltI s36 p9) (
    bnd (idx a1 s36) fun x38 =>
    bnd (m14_4 a0 a1 s36 x38) fun v61 =>
    br v61 (
      some (.out (.inr ()))) (
      some (.nxt (wadd .i64 s36 1)))) (
    some (.out (.inl ())))
noncomputable def m14 (a0 : Int) (a1 : (List Rel)) : Option Bool :=
  bnd (m14_1 a0 a1) fun v7 =>
  br v7 (
    some false) (
    bnd (loopP (m14_2b a0 a1 (↑a1.length : Int)) 0) fun o => selS o (fun _ =>
      some true) (fun _ =>
      some false))
-- f49 slices.Clone[[]int,int]
noncomputable def m49 (a0 : (List Int)) : Option (List Int) :=
  ck (0 + a0.length ≤ 4294967296) <|
  some a0
-- f71 slices.IndexFunc[[]int,int]
noncomputable def m71_1b (a0 : (List Int)) (p1 : Int) (a1 : (Int → Option Bool)) (s12 : Int) : Option (Ctl Int (Unit ⊕ Int)) :=
  br (ltI s12 p1) (
    bnd (idx a0 s12) fun x14 =>
    bnd (a1 x14) fun r19 =>
    br r19 (
      some (.out (.inr s12))) (
      some (.nxt (wadd .i64 s12 1)))) (
    some (.out (.inl ())))
noncomputable def m71 (a0 : (List Int)) (a1 : (Int → Option Bool)) : Option Int :=
  bnd (loopP (m71_1b a0 (↑a0.length : Int) a1) 0) fun o => selS o (fun _ =>
    some (-1)) (fun v25 =>
    some v25)
-- f48 slices.DeleteFunc[[]int,int]
noncomputable def m48_3 (s26 : Int) (x30 : Int) (p38 : Bool) (s28 : List Int) : Option (Int × List Int) :=
  br p38 (
    bnd (idx s28 s26) fun x40 =>
    some (wadd .i64 s26 1, s28.set s26.toNat x30)) (
    some (s26, s28))
noncomputable def m48_1b (a1 : (Int → Option Bool)) (p : (Int × Int × List Int)) : Option (Ctl (Int × Int × List Int) (Int × List Int)) :=
  sel3 p fun s26 s27 s28 =>
  br (ltI s27 (↑s28.length : Int)) (
    bnd (idx s28 s27) fun x30 =>
    bnd (a1 x30) fun r35 =>
    bnd (m48_3 s26 x30 (!r35) s28) fun p => sel2 p fun v47 v48 =>
    some (.nxt (v47, wadd .i64 s27 1, v48))) (
    some (.out (s26, s28)))
noncomputable def m48 (a0 : (List Int)) (a1 : (Int → Option Bool)) : Option (List Int) :=
  bnd (m71 a0 a1) fun r3 =>
  br (eqI r3 (-1)) (
    some a0) (
    bnd (loopP (m48_1b a1) (r3, wadd .i64 r3 1, a0)) fun p => sel2 p fun v51 v52 =>
    ck (0 ≤ v51 ∧ v51 ≤ (↑v52.length : Int)) <|
    ck (0 ≤ v51 ∧ v51 ≤ (↑(((v52.take v51.toNat).drop 0).take v52.length).length : Int)) <|
    some (v52.take v51.toNat))
-- f51 slices.ContainsFunc[[]int,int]
noncomputable def m51 (a0 : (List Int)) (a1 : (Int → Option Bool)) : Option Bool :=
  bnd (m71 a0 a1) fun r3 =>
  some (leI 0 r3)
-- f46 impl.kindTo
noncomputable def m46_4 (a1 : Int) (a2 : Int) (x20 : Rel) : Option Bool :=
  br (eqI x20.a a1) (
    some (eqI x20.b a2)) (
    some false)
noncomputable def m46_5 (a1 : Int) (a2 : Int) (x20 : Rel) : Option Bool :=
  br (eqI x20.a a2) (
    some (eqI x20.b a1)) (
    some false)
noncomputable def m46_1b (a1 : Int) (a2 : Int) (a0 : (List Rel)) (p1 : Int) (s18 : Int) : Option (Ctl Int (Unit ⊕ Int)) :=
  br (ltI s18 p1) (
    bnd (idx a0 s18) fun x20 =>
    bnd (m46_4 a1 a2 x20) fun v28 =>
    br v28 (
      some (.out (.inr x20.kind))) (
      bnd (m46_5 a1 a2 x20) fun v33 =>
      br v33 (
        some (.out (.inr (wsub .i64 4 x20.kind)))) (
        some (.nxt (wadd .i64 s18 1))))) (
    some (.out (.inl ())))
noncomputable def m46 (a0 : (List Rel)) (a1 : Int) (a2 : Int) : Option Int :=
  bnd (loopP (m46_1b a1 a2 a0 (↑a0.length : Int)) 0) fun o => selS o (fun _ =>
    some 0) (fun v37 =>
    some v37)
-- f52 impl.NoRing$1$1
noncomputable def m52 (a0 : Int) (a1 : (List Rel)) (a2 : Int) : Option Bool :=
  bnd (m46 a1 a2 a0) fun r3 =>
  some (eqI r3 1)
-- f50 impl.NoRing$1
noncomputable def m50 (a0 : Int) (a1 : (List Int)) (a2 : (List Rel)) : Option Bool :=
  bnd (m51 a1 (fun y0 => m52 y0 a2 a0)) fun r3 =>
  some (!r3)
-- f21 impl.NoRing
noncomputable def m21_1b (p5 : Int) (p : (Int × List Int)) : Option (Ctl (Int × List Int) (List Int)) :=
  sel2 p fun s7 s8 =>
  br (ltI s7 p5) (
    ck (s8.length + 1 ≤ 4294967296) <|
    some (.nxt (wadd .i64 s7 1, s8 ++ [s7]))) (
    some (.out s8))
noncomputable def m21_2b (a1 : (List Rel)) (s21 : List Int) : Option (Ctl (List Int) Bool) :=
  bnd (m49 s21) fun r24 =>
  bnd (m48 r24 (fun y0 => m50 y0 s21 a1)) fun r27 =>
  br (eqI (↑r27.length : Int) (↑s21.length : Int)) (
    some (.out (eqI (↑s21.length : Int) 0))) (
    some (.nxt r27))
noncomputable def m21 (a0 : Int) (a1 : (List Rel)) : Option (Bool × Bool) :=
  bnd (m14 a0 a1) fun r3 =>
  br r3 (
    bnd (loopP (m21_1b (wadd .i64 a0 1)) (0, [])) fun v13 =>
    bnd (loopP (m21_2b a1) v13) fun v31 =>
    some (v31, true)) (
    some (false, false))
-- f44 laws.eqRel
noncomputable def m44 (a0 : Rel) (a1 : Rel) : Option Bool :=
  br (eqI a0.a a1.a) (
    br (eqI a0.b a1.b) (
      br (eqI a0.kind a1.kind) (
        some true) (
        some false)) (
      some false)) (
    some false)
-- f15 laws.eqRelS
noncomputable def m15_1b (a0 : (List Rel)) (a1 : (List Rel)) (s17 : Int) : Option (Ctl Int (Unit ⊕ Unit)) :=
  br (ltI s17 (↑a0.length : Int)) (
    bnd (idx a0 s17) fun x19 =>
    bnd (idx a1 s17) fun x24 =>
    bnd (m44 x19 x24) fun r31 =>
    br r31 (
      some (.nxt (wadd .i64 s17 1))) (
      some (.out (.inr ())))) (
    some (.out (.inl ())))
noncomputable def m15 (a0 : (List Rel)) (a1 : (List Rel)) : Option Bool :=
  br (eqI (↑a0.length : Int) (↑a1.length : Int)) (
    bnd (loopP (m15_1b a0 a1) 0) fun o => selS o (fun _ =>
      some true) (fun _ =>
      some false)) (
    some false)
-- f6 laws.FnExactNoRing
noncomputable def m6_1 (r10 : Bool) (r11 : Bool) (r16 : Bool) (r17 : Bool) : Option Bool :=
  br (eqB r16 r10) (
    some (!eqB r17 r11)) (
    some true)
noncomputable def m6 (a0 : Int) (a1 : (List Rel)) : Option Bool :=
  bnd (m11 a1 1048576) fun r3 =>
  br (ltI r3 0) (
    some true) (
    bnd (m13 a1) fun r7 =>
    bnd (m20 a0 r7) fun p => sel2 p fun r10 r11 =>
    bnd (m21 a0 r7) fun p => sel2 p fun r16 r17 =>
    bnd (m6_1 r10 r11 r16 r17) fun v21 =>
    br v21 (
      some false) (
      bnd (m15 r7 r7) fun r27 =>
      br r27 (
        some true) (
        some false)))
end Go.Pi.Ytichbkallidkcaa.NoRing
