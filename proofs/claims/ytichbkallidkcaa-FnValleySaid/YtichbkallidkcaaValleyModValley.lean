/- What functions of the program answer, and that the law answers true at every input; no condition -/
import Derived.Test.YtichbkallidkcaaPiC
set_option linter.all false
/- Functions of the program, in plain Lean. -/
namespace Go.Pi.Ytichbkallidkcaa.Valley
open Go Go.Pi
set_option maxRecDepth 100000
set_option linter.all false
def wfIntu8 (x : Int) : Prop := 0 ≤ x ∧ x ≤ 255
def wfLIntu8 (x : (List Int)) : Prop := x.length ≤ 9223372036854775807 ∧ ∀ y ∈ x, wfIntu8 y
def wfBool (x : Bool) : Prop := True
def wfInt (x : Int) : Prop := -9223372036854775808 ≤ x ∧ x ≤ 9223372036854775807
structure Rel where
  a : Int
  b : Int
  kind : Int
  deriving Inhabited, DecidableEq
def wfRel (x : Rel) : Prop := wfInt x.a ∧ wfInt x.b ∧ wfInt x.kind
def wfLRel (x : (List Rel)) : Prop := x.length ≤ 9223372036854775807 ∧ ∀ y ∈ x, wfRel y
def wfLInt (x : (List Int)) : Prop := x.length ≤ 9223372036854775807 ∧ ∀ y ∈ x, wfInt y
def wfIntu64 (x : Int) : Prop := 0 ≤ x ∧ x ≤ 18446744073709551615
structure l1Cur where
  code : (List Int)
  at_ : Int
  seed : Int
  deriving Inhabited, DecidableEq
def wfl1Cur (x : l1Cur) : Prop := wfLIntu8 x.code ∧ wfInt x.at_ ∧ wfIntu64 x.seed
-- f73 (*spec.l1Cur).next
noncomputable def m73_1 (p1 : Bool) (a0 : l1Cur) : Option Int :=
  br p1 (
    bnd (idx a0.code a0.at_) fun x3 =>
    some (wcv .i64 x3)) (
    some 0)
noncomputable def m73 (a0 : l1Cur) : Option (Int × Int × Int) :=
  bnd (m73_1 (ltI a0.at_ (↑a0.code.length : Int)) a0) fun v10 =>
  br (leI (wadd .i64 a0.at_ 1) (↑a0.code.length : Int)) (
    some (v10, wadd .i64 a0.at_ 1, wadd .u64 (wadd .u64 (wmul .u64 a0.seed 6364136223846793005) (wcv .u64 v10)) 1442695040888963407)) (
    some (wcv .i64 (intBits .and .u64 (wshr .u64 (wadd .u64 (wadd .u64 (wmul .u64 a0.seed 6364136223846793005) (wcv .u64 v10)) 1442695040888963407) 40) 255), wadd .i64 a0.at_ 1, wadd .u64 (wadd .u64 (wmul .u64 a0.seed 6364136223846793005) (wcv .u64 v10)) 1442695040888963407))
-- f58 (*spec.l1Cur).pick
noncomputable def m58_1 (r4 : Int) (p7 : Bool) (a0 : l1Cur) (r5 : Int) (r6 : Int) : Option (Int × Int × Int) :=
  br p7 (
    bnd (m73 (⟨a0.code, r5, r6⟩ : l1Cur)) fun p => sel3 p fun r11 r12 r13 =>
    some (wadd .i64 (wmul .i64 r4 256) r11, r12, r13)) (
    some (r4, r5, r6))
noncomputable def m58 (a0 : l1Cur) (a1 : Int) : Option (Int × Int × Int) :=
  br (leI a1 1) (
    some (0, a0.at_, a0.seed)) (
    bnd (m73 a0) fun p => sel3 p fun r4 r5 r6 =>
    bnd (m58_1 r4 (ltI 200 a1) a0 r5 r6) fun p => sel3 p fun v16 v17 v18 =>
    ck (¬ a1 = 0) <|
    some (wrem .i64 v16 a1, v17, v18))
-- f59 (*spec.l1Cur).one
noncomputable def m59 (a0 : l1Cur) (a1 : Int) : Option (Bool × Int × Int) :=
  bnd (m58 a0 a1) fun p => sel3 p fun r3 r4 r5 =>
  some (eqI r3 0, r4, r5)
-- f57 (*spec.l1Cur).rels
noncomputable def m57_15 (p125 : Bool) : Option Int :=
  br p125 (
    some 1) (
    some 3)
noncomputable def m57_14 (r120 : Int) (p123 : Bool) : Option Int :=
  br p123 (
    some 2) (
    bnd (m57_15 (eqI r120 1)) fun v129 =>
    some v129)
noncomputable def m57_13 (s73 : Int) (s107 : Int) (a0 : l1Cur) (s108 : Int) (s109 : Int) (s110 : List Rel) : Option (Int × Int × List Rel) :=
  bnd (m59 (⟨a0.code, s108, s109⟩ : l1Cur) 3) fun p => sel3 p fun r114 r115 r116 =>
  br r114 (
    bnd (m58 (⟨a0.code, r115, r116⟩ : l1Cur) 5) fun p => sel3 p fun r120 r121 r122 =>
    bnd (m57_14 r120 (eqI r120 0)) fun v132 =>
    ck (s110.length + 1 ≤ 4294967296) <|
    some (r121, r122, s110 ++ [(⟨s73, s107, v132⟩ : Rel)])) (
    some (r115, r116, s110))
noncomputable def m57_9b (p6 : Int) (s73 : Int) (a0 : l1Cur) (p : (Int × Int × Int × List Rel)) : Option (Ctl (Int × Int × Int × List Rel) (Int × Int × List Rel)) :=
  sel4 p fun s107 s108 s109 s110 =>
  br (leI s107 p6) (
    bnd (m57_13 s73 s107 a0 s108 s109 s110) fun p => sel3 p fun v136 v137 v138 =>
    some (.nxt (wadd .i64 s107 1, v136, v137, v138))) (
    some (.out (s108, s109, s110)))
noncomputable def m57_1b (p6 : Int) (a0 : l1Cur) (p : (Int × Int × Int × List Rel)) : Option (Ctl (Int × Int × Int × List Rel) (Int × Int × List Rel)) :=
  sel4 p fun s73 s74 s75 s76 =>
  br (ltI s73 p6) (
    bnd (loopP (m57_9b p6 s73 a0) (wadd .i64 s73 1, s74, s75, s76)) fun p => sel3 p fun v141 v142 v143 =>
    some (.nxt (wadd .i64 s73 1, v141, v142, v143))) (
    some (.out (s74, s75, s76)))
noncomputable def m57_16 (r151 : Bool) (a0 : l1Cur) (r152 : Int) (r153 : Int) (v148 : List Rel) : Option (Int × Int × List Rel) :=
  br r151 (
    bnd (m58 (⟨a0.code, r152, r153⟩ : l1Cur) 3) fun p => sel3 p fun r158 r159 r160 =>
    bnd (m58 (⟨a0.code, r159, r160⟩ : l1Cur) 8) fun p => sel3 p fun r163 r164 r165 =>
    bnd (m58 (⟨a0.code, r164, r165⟩ : l1Cur) 5) fun p => sel3 p fun r168 r169 r170 =>
    ck (v148.length + 1 ≤ 4294967296) <|
    some (r169, r170, v148 ++ [(⟨r158, r163, r168⟩ : Rel)])) (
    some (r152, r153, v148))
noncomputable def m57 (a0 : l1Cur) : Option (Int × Int × Int × List Rel) :=
  bnd (m58 a0 4) fun p => sel3 p fun r3 r4 r5 =>
  bnd (loopP (m57_1b (wadd .i64 1 r3) a0) (0, r4, r5, [])) fun p => sel3 p fun v146 v147 v148 =>
  bnd (m59 (⟨a0.code, v146, v147⟩ : l1Cur) 30) fun p => sel3 p fun r151 r152 r153 =>
  bnd (m57_16 r151 a0 r152 r153 v148) fun p => sel3 p fun v174 v175 v176 =>
  some ((wadd .i64 1 r3), v174, v175, v176)
-- f45 spec.l11Kind
noncomputable def m45_4 (a1 : Int) (a2 : Int) (x20 : Rel) : Option Bool :=
  br (eqI x20.a a1) (
    some (eqI x20.b a2)) (
    some false)
noncomputable def m45_5 (a1 : Int) (a2 : Int) (x20 : Rel) : Option Bool :=
  br (eqI x20.a a2) (
    some (eqI x20.b a1)) (
    some false)
noncomputable def m45_1b (a1 : Int) (a2 : Int) (a0 : (List Rel)) (p1 : Int) (s18 : Int) : Option (Ctl Int (Unit ⊕ Int)) :=
  br (ltI s18 p1) (
    bnd (idx a0 s18) fun x20 =>
    bnd (m45_4 a1 a2 x20) fun v28 =>
    br v28 (
      some (.out (.inr x20.kind))) (
      bnd (m45_5 a1 a2 x20) fun v33 =>
      br v33 (
        some (.out (.inr (wsub .i64 4 x20.kind)))) (
        some (.nxt (wadd .i64 s18 1))))) (
    some (.out (.inl ())))
noncomputable def m45 (a0 : (List Rel)) (a1 : Int) (a2 : Int) : Option Int :=
  bnd (loopP (m45_1b a1 a2 a0 (↑a0.length : Int)) 0) fun o => selS o (fun _ =>
    some 0) (fun v37 =>
    some v37)
-- f47 spec.l1Has
noncomputable def m47_1b (a1 : Int) (a0 : (List Int)) (p1 : Int) (s9 : Int) : Option (Ctl Int (Unit ⊕ Unit)) :=
  br (ltI s9 p1) (
    bnd (idx a0 s9) fun x11 =>
    br (eqI x11 a1) (
      some (.out (.inr ()))) (
      some (.nxt (wadd .i64 s9 1)))) (
    some (.out (.inl ())))
noncomputable def m47 (a0 : (List Int)) (a1 : Int) : Option Bool :=
  bnd (loopP (m47_1b a1 a0 (↑a0.length : Int)) 0) fun o => selS o (fun _ =>
    some false) (fun _ =>
    some true)
-- f26 spec.DrawIsValleyFree
noncomputable def m26_4 (r51 : Int) (r6 : List Rel) (s47 : List Int) : Option Bool :=
  bnd (idx s47 (wsub .i64 (↑s47.length : Int) 1)) fun x54 =>
  bnd (m45 r6 x54 r51) fun r61 =>
  br (eqI r61 0) (
    some false) (
    bnd (m47 s47 r51) fun r65 =>
    some (!r65))
noncomputable def m26_5 (r51 : Int) (v68 : Bool) (s47 : List Int) : Option (List Int) :=
  br v68 (
    ck (s47.length + 1 ≤ 4294967296) <|
    some (s47 ++ [r51])) (
    some s47)
noncomputable def m26_1b (r3 : Int) (a0 : (List Int)) (r6 : List Rel) (p : (Int × Int × Int × List Int)) : Option (Ctl (Int × Int × Int × List Int) (Int × Int × List Int)) :=
  sel4 p fun s44 s45 s46 s47 =>
  br (ltI 0 s44) (
    bnd (m58 (⟨a0, s45, s46⟩ : l1Cur) (wadd .i64 r3 1)) fun p => sel3 p fun r51 r52 r53 =>
    bnd (m26_4 r51 r6 s47) fun v68 =>
    bnd (m26_5 r51 v68 s47) fun v73 =>
    some (.nxt (wsub .i64 s44 1, r52, r53, v73))) (
    some (.out (s45, s46, s47)))
noncomputable def m26_6 (r81 : Bool) (a0 : (List Int)) (r82 : Int) (r83 : Int) (v78 : List Int) : Option (List Int) :=
  br r81 (
    bnd (m58 (⟨a0, r82, r83⟩ : l1Cur) 7) fun p => sel3 p fun r87 r88 r89 =>
    ck (v78.length + 1 ≤ 4294967296) <|
    some (v78 ++ [r87])) (
    some v78)
noncomputable def m26 (a0 : (List Int)) : Option (Int × (List Rel) × (List Int)) :=
  bnd (m57 (⟨a0, 0, 0⟩ : l1Cur)) fun p => sel4 p fun r3 r4 r5 r6 =>
  bnd (m58 (⟨a0, r4, r5⟩ : l1Cur) (wadd .i64 r3 1)) fun p => sel3 p fun r9 r10 r11 =>
  bnd (m58 (⟨a0, r10, r11⟩ : l1Cur) 5) fun p => sel3 p fun r14 r15 r16 =>
  bnd (loopP (m26_1b r3 a0 r6) (r14, r15, r16, [r9])) fun p => sel3 p fun v76 v77 v78 =>
  bnd (m59 (⟨a0, v76, v77⟩ : l1Cur) 20) fun p => sel3 p fun r81 r82 r83 =>
  bnd (m26_6 r81 a0 r82 r83 v78) fun v93 =>
  some (r3, r6, v93)
-- f41 impl.within
noncomputable def m41_1 (a0 : Int) (a1 : Int) (a2 : Int) : Option Bool :=
  br (leI a1 a0) (
    some (leI a0 a2)) (
    some false)
noncomputable def m41 (a0 : Int) (a1 : Int) (a2 : Int) : Option Bool :=
  bnd (m41_1 a0 a1 a2) fun v4 =>
  some v4
-- f70 slices.IndexFunc[[]impl.Rel,impl.Rel]
noncomputable def m70_1b (a0 : (List Rel)) (p1 : Int) (a1 : (Rel → Option Bool)) (s12 : Int) : Option (Ctl Int (Unit ⊕ Int)) :=
  br (ltI s12 p1) (
    bnd (idx a0 s12) fun x14 =>
    bnd (a1 x14) fun r19 =>
    br r19 (
      some (.out (.inr s12))) (
      some (.nxt (wadd .i64 s12 1)))) (
    some (.out (.inl ())))
noncomputable def m70 (a0 : (List Rel)) (a1 : (Rel → Option Bool)) : Option Int :=
  bnd (loopP (m70_1b a0 (↑a0.length : Int) a1) 0) fun o => selS o (fun _ =>
    some (-1)) (fun v25 =>
    some v25)
-- f42 slices.ContainsFunc[[]impl.Rel,impl.Rel]
noncomputable def m42 (a0 : (List Rel)) (a1 : (Rel → Option Bool)) : Option Bool :=
  bnd (m70 a0 a1) fun r3 =>
  some (leI 0 r3)
-- f43 impl.GoodRels$1
noncomputable def m43_1 (a1 : Rel) (a0 : Rel) : Option Bool :=
  br (eqI a1.a a0.a) (
    some (eqI a1.b a0.b)) (
    some false)
noncomputable def m43 (a0 : Rel) (a1 : Rel) : Option Bool :=
  bnd (m43_1 a1 a0) fun v4 =>
  some v4
-- f14 impl.GoodRels
noncomputable def m14_1 (a0 : Int) (a1 : (List Rel)) : Option Bool :=
  bnd (m41 a0 1 5) fun r3 =>
  br r3 (
    some (ltI 15 (↑a1.length : Int))) (
    some true)
noncomputable def m14_4 (a0 : Int) (a1 : (List Rel)) (s36 : Int) (x38 : Rel) : Option Bool :=
  bnd (m41 x38.b 1 a0) fun r45 =>
  br r45 (
    bnd (m41 x38.a 0 (wsub .i64 x38.b 1)) fun r49 =>
    br r49 (
      bnd (m41 x38.kind 1 3) fun r53 =>
      br r53 (
        ck (0 ≤ s36 ∧ s36 ≤ (↑a1.length : Int)) <|
        bnd (m42 (a1.take s36.toNat) (fun y0 => m43 y0 x38)) fun r58 =>
        some r58) (
        some true)) (
      some true)) (
    some true)
noncomputable def m14_2b (a0 : Int) (a1 : (List Rel)) (p9 : Int) (s36 : Int) : Option (Ctl Int (Unit ⊕ Unit)) :=
  br (ltI s36 p9) (
    bnd (idx a1 s36) fun x38 =>
    bnd (m14_4 a0 a1 s36 x38) fun v61 =>
    br v61 (
      some (.out (.inr ()))) (
      some (.nxt (wadd .i64 s36 1)))) (
    some (.out (.inl ())))
noncomputable def m14 (a0 : Int) (a1 : (List Rel)) : Option Bool :=
  bnd (m14_1 a0 a1) fun v7 =>
  br v7 (
    some false) (
    bnd (loopP (m14_2b a0 a1 (↑a1.length : Int)) 0) fun o => selS o (fun _ =>
      some true) (fun _ =>
      some false))
-- f72 slices.Index[[]int,int]
noncomputable def m72_1b (a0 : (List Int)) (a1 : Int) (p1 : Int) (s9 : Int) : Option (Ctl Int (Unit ⊕ Int)) :=
  br (ltI s9 p1) (
    bnd (idx a0 s9) fun x11 =>
    br (eqI a1 x11) (
      some (.out (.inr s9))) (
      some (.nxt (wadd .i64 s9 1)))) (
    some (.out (.inl ())))
noncomputable def m72 (a0 : (List Int)) (a1 : Int) : Option Int :=
  bnd (loopP (m72_1b a0 a1 (↑a0.length : Int)) 0) fun o => selS o (fun _ =>
    some (-1)) (fun v19 =>
    some v19)
-- f55 slices.Contains[[]int,int]
noncomputable def m55 (a0 : (List Int)) (a1 : Int) : Option Bool :=
  bnd (m72 a0 a1) fun r3 =>
  some (leI 0 r3)
-- f46 impl.kindTo
noncomputable def m46_4 (a1 : Int) (a2 : Int) (x20 : Rel) : Option Bool :=
  br (eqI x20.a a1) (
    some (eqI x20.b a2)) (
    some false)
noncomputable def m46_5 (a1 : Int) (a2 : Int) (x20 : Rel) : Option Bool :=
  br (eqI x20.a a2) (
    some (eqI x20.b a1)) (
    some false)
noncomputable def m46_1b (a1 : Int) (a2 : Int) (a0 : (List Rel)) (p1 : Int) (s18 : Int) : Option (Ctl Int (Unit ⊕ Int)) :=
  br (ltI s18 p1) (
    bnd (idx a0 s18) fun x20 =>
    bnd (m46_4 a1 a2 x20) fun v28 =>
    br v28 (
      some (.out (.inr x20.kind))) (
      bnd (m46_5 a1 a2 x20) fun v33 =>
      br v33 (
        some (.out (.inr (wsub .i64 4 x20.kind)))) (
        some (.nxt (wadd .i64 s18 1))))) (
    some (.out (.inl ())))
noncomputable def m46 (a0 : (List Rel)) (a1 : Int) (a2 : Int) : Option Int :=
  bnd (loopP (m46_1b a1 a2 a0 (↑a0.length : Int)) 0) fun o => selS o (fun _ =>
    some 0) (fun v37 =>
    some v37)
-- f56 impl.isValleyFree
noncomputable def m56_4 (s23 : Bool) (r38 : Int) : Option (Bool × Bool) :=
  br (eqI r38 0) (
    some (s23, true)) (
    br s23 (
      some (true, !(eqI r38 1))) (
      some (false, false)))
noncomputable def m56_5 (v43 : Bool) (r38 : Int) : Option Bool :=
  br v43 (
    some true) (
    some (!(eqI r38 3)))
noncomputable def m56_1b (a0 : (List Rel)) (a1 : (List Int)) (p : (Bool × Int)) : Option (Ctl (Bool × Int) (Unit ⊕ Unit)) :=
  sel2 p fun s23 s24 =>
  br (ltI s24 (↑a1.length : Int)) (
    bnd (idx a1 (wsub .i64 s24 1)) fun x26 =>
    bnd (idx a1 s24) fun x31 =>
    bnd (m46 a0 x26 x31) fun r38 =>
    bnd (m56_4 s23 r38) fun p => sel2 p fun v43 v44 =>
    br v44 (
      some (.out (.inr ()))) (
      bnd (m56_5 v43 r38) fun v49 =>
      some (.nxt (v49, wadd .i64 s24 1)))) (
    some (.out (.inl ())))
noncomputable def m56 (a0 : (List Rel)) (a1 : (List Int)) : Option Bool :=
  bnd (loopP (m56_1b a0 a1) (false, 1)) fun o => selS o (fun _ =>
    some true) (fun _ =>
    some false)
-- f24 impl.IsValleyFree
noncomputable def m24_1 (a0 : Int) (a1 : (List Rel)) (a2 : (List Int)) : Option Bool :=
  bnd (m14 a0 a1) fun r3 =>
  br r3 (
    bnd (m41 (↑a2.length : Int) 2 6) fun r7 =>
    some (!r7)) (
    some true)
noncomputable def m24_4 (a0 : Int) (a1 : (List Rel)) (a2 : (List Int)) (s41 : Int) (x43 : Int) : Option Bool :=
  bnd (m41 x43 0 a0) fun r50 =>
  br r50 (
    ck (0 ≤ s41 ∧ s41 ≤ (↑a2.length : Int)) <|
    bnd (m55 (a2.take s41.toNat) x43) fun r55 =>
    br r55 (
      some true) (
      br (ltI 0 s41) (
        bnd (idx a2 (wsub .i64 s41 1)) fun x58 =>
        bnd (m46 a1 x58 x43) fun r65 =>
        some (eqI r65 0)) (
        some false))) (
    some true)
noncomputable def m24_2b (a0 : Int) (a1 : (List Rel)) (a2 : (List Int)) (p12 : Int) (s41 : Int) : Option (Ctl Int (Unit ⊕ Unit)) :=
  br (ltI s41 p12) (
    bnd (idx a2 s41) fun x43 =>
    bnd (m24_4 a0 a1 a2 s41 x43) fun v68 =>
    br v68 (
      some (.out (.inr ()))) (
      some (.nxt (wadd .i64 s41 1)))) (
    some (.out (.inl ())))
noncomputable def m24 (a0 : Int) (a1 : (List Rel)) (a2 : (List Int)) : Option (Bool × Bool) :=
  bnd (m24_1 a0 a1 a2) fun v10 =>
  br v10 (
    some (false, false)) (
    bnd (loopP (m24_2b a0 a1 a2 (↑a2.length : Int)) 0) fun o => selS o (fun _ =>
      bnd (m56 a1 a2) fun r74 =>
      some (r74, true)) (fun _ =>
      some (false, false)))
-- f39 spec.l1In
noncomputable def m39_1 (a0 : Int) (a1 : Int) (a2 : Int) : Option Bool :=
  br (leI a1 a0) (
    some (leI a0 a2)) (
    some false)
noncomputable def m39 (a0 : Int) (a1 : Int) (a2 : Int) : Option Bool :=
  bnd (m39_1 a0 a1 a2) fun v4 =>
  some v4
-- f12 spec.GoodRels
noncomputable def m12_1 (a0 : Int) (a1 : (List Rel)) : Option Bool :=
  bnd (m39 a0 1 5) fun r3 =>
  br r3 (
    some (ltI 15 (↑a1.length : Int))) (
    some true)
noncomputable def m12_7 (a0 : Int) (x56 : Rel) : Option Bool :=
  br (ltI x56.a 0) (
    some true) (
    br (leI x56.b x56.a) (
      some true) (
      br (ltI a0 x56.b) (
        some true) (
        bnd (m39 x56.kind 1 3) fun r66 =>
        some (!r66))))
noncomputable def m12_10 (x56 : Rel) (x87 : Rel) : Option Bool :=
  br (eqI x87.a x56.a) (
    some (eqI x87.b x56.b)) (
    some false)
noncomputable def m12_8b (p72 : List Rel) (p73 : Int) (x56 : Rel) (s85 : Int) : Option (Ctl Int (Unit ⊕ Unit)) :=
  br (ltI s85 p73) (
    bnd (idx p72 s85) fun x87 =>
    bnd (m12_10 x56 x87) fun v95 =>
    br v95 (
      some (.out (.inr ()))) (
      some (.nxt (wadd .i64 s85 1)))) (
    some (.out (.inl ())))
noncomputable def m12_2b (a0 : Int) (a1 : (List Rel)) (p9 : Int) (s54 : Int) : Option (Ctl Int (Unit ⊕ Unit)) :=
  br (ltI s54 p9) (
    bnd (idx a1 s54) fun x56 =>
    bnd (m12_7 a0 x56) fun v69 =>
    br v69 (
      some (.out (.inr ()))) (
      ck (0 ≤ s54 ∧ s54 ≤ (↑a1.length : Int)) <|
      bnd (loopP (m12_8b (a1.take s54.toNat) (↑((a1.take s54.toNat).length) : Int) x56) 0) fun o => selS o (fun _ =>
        some (.nxt (wadd .i64 s54 1))) (fun _ =>
        some (.out (.inr ()))))) (
    some (.out (.inl ())))
noncomputable def m12 (a0 : Int) (a1 : (List Rel)) : Option Bool :=
  bnd (m12_1 a0 a1) fun v7 =>
  br v7 (
    some false) (
    bnd (loopP (m12_2b a0 a1 (↑a1.length : Int)) 0) fun o => selS o (fun _ =>
      some true) (fun _ =>
      some false))
-- f53 spec.l11Row
noncomputable def m53_3 (a0 : Int) (a1 : (List Rel)) (a2 : (List Int)) (s28 : Int) (x30 : Int) : Option Bool :=
  br (ltI x30 0) (
    some true) (
    br (ltI a0 x30) (
      some true) (
      ck (0 ≤ s28 ∧ s28 ≤ (↑a2.length : Int)) <|
      bnd (m47 (a2.take s28.toNat) x30) fun r40 =>
      br r40 (
        some true) (
        br (ltI 0 s28) (
          bnd (idx a2 (wsub .i64 s28 1)) fun x43 =>
          bnd (m45 a1 x43 x30) fun r50 =>
          some (eqI r50 0)) (
          some false))))
noncomputable def m53_1b (a0 : Int) (a1 : (List Rel)) (a2 : (List Int)) (p1 : Int) (s28 : Int) : Option (Ctl Int (Unit ⊕ Unit)) :=
  br (ltI s28 p1) (
    bnd (idx a2 s28) fun x30 =>
    bnd (m53_3 a0 a1 a2 s28 x30) fun v53 =>
    br v53 (
      some (.out (.inr ()))) (
      some (.nxt (wadd .i64 s28 1)))) (
    some (.out (.inl ())))
noncomputable def m53 (a0 : Int) (a1 : (List Rel)) (a2 : (List Int)) : Option Bool :=
  bnd (loopP (m53_1b a0 a1 a2 (↑a2.length : Int)) 0) fun o => selS o (fun _ =>
    bnd (m39 (↑a2.length : Int) 2 6) fun r59 =>
    some r59) (fun _ =>
    some false)
-- f54 spec.l11Free
noncomputable def m54_4 (s20 : Bool) (r35 : Int) : Option (Bool × Bool) :=
  br s20 (
    some (true, !(eqI r35 1))) (
    some (false, false))
noncomputable def m54_5 (v39 : Bool) (r35 : Int) : Option Bool :=
  br v39 (
    some true) (
    some (!(eqI r35 3)))
noncomputable def m54_1b (a0 : (List Rel)) (a1 : (List Int)) (p : (Bool × Int)) : Option (Ctl (Bool × Int) (Unit ⊕ Unit)) :=
  sel2 p fun s20 s21 =>
  br (ltI s21 (↑a1.length : Int)) (
    bnd (idx a1 (wsub .i64 s21 1)) fun x23 =>
    bnd (idx a1 s21) fun x28 =>
    bnd (m45 a0 x23 x28) fun r35 =>
    bnd (m54_4 s20 r35) fun p => sel2 p fun v39 v40 =>
    br v40 (
      some (.out (.inr ()))) (
      bnd (m54_5 v39 r35) fun v45 =>
      some (.nxt (v45, wadd .i64 s21 1)))) (
    some (.out (.inl ())))
noncomputable def m54 (a0 : (List Rel)) (a1 : (List Int)) : Option Bool :=
  bnd (loopP (m54_1b a0 a1) (false, 1)) fun o => selS o (fun _ =>
    some true) (fun _ =>
    some false)
-- f22 spec.IsValleyFree
noncomputable def m22_1 (a0 : Int) (a1 : (List Rel)) (a2 : (List Int)) : Option Bool :=
  bnd (m12 a0 a1) fun r3 =>
  br r3 (
    bnd (m53 a0 a1 a2) fun r7 =>
    some (!r7)) (
    some true)
noncomputable def m22 (a0 : Int) (a1 : (List Rel)) (a2 : (List Int)) : Option (Bool × Bool) :=
  bnd (m22_1 a0 a1 a2) fun v10 =>
  br v10 (
    some (false, false)) (
    bnd (m54 a1 a2) fun r14 =>
    some (r14, true))
-- f19 impl.MayTell
noncomputable def m19_1 (a0 : Int) (a1 : (List Rel)) (a3 : Int) (a4 : Int) : Option Bool :=
  bnd (m14 a0 a1) fun r3 =>
  br r3 (
    some (eqI a3 a4)) (
    some true)
noncomputable def m19_2 (r11 : Int) (r14 : Int) : Option Bool :=
  br (eqI r11 0) (
    some true) (
    some (eqI r14 0))
noncomputable def m19_3 (r11 : Int) (r14 : Int) : Option Bool :=
  br (eqI r11 1) (
    some true) (
    some (eqI r14 1))
noncomputable def m19 (a0 : Int) (a1 : (List Rel)) (a2 : Int) (a3 : Int) (a4 : Int) : Option (Bool × Bool) :=
  bnd (m19_1 a0 a1 a3 a4) fun v7 =>
  br v7 (
    some (false, false)) (
    bnd (m46 a1 a2 a3) fun r11 =>
    bnd (m46 a1 a2 a4) fun r14 =>
    bnd (m19_2 r11 r14) fun v18 =>
    br v18 (
      some (false, false)) (
      bnd (m19_3 r11 r14) fun v23 =>
      some (v23, true)))
-- f27 spec.DrawKindTo
noncomputable def m27 (a0 : (List Int)) : Option (Int × (List Rel) × Int × Int) :=
  bnd (m57 (⟨a0, 0, 0⟩ : l1Cur)) fun p => sel4 p fun r3 r4 r5 r6 =>
  bnd (m58 (⟨a0, r4, r5⟩ : l1Cur) 6) fun p => sel3 p fun r9 r10 r11 =>
  bnd (m58 (⟨a0, r10, r11⟩ : l1Cur) 6) fun p => sel3 p fun r14 r15 r16 =>
  some (r3, r6, r9, r14)
-- f17 impl.KindTo
noncomputable def m17 (a0 : Int) (a1 : (List Rel)) (a2 : Int) (a3 : Int) : Option (Int × Bool) :=
  bnd (m14 a0 a1) fun r3 =>
  br r3 (
    bnd (m46 a1 a2 a3) fun r7 =>
    some (r7, !(eqI r7 0))) (
    some (0, false))
-- f16 spec.KindTo
noncomputable def m16_1 (a0 : Int) (a1 : (List Rel)) (a2 : Int) (a3 : Int) : Option Bool :=
  bnd (m12 a0 a1) fun r3 =>
  br r3 (
    bnd (m45 a1 a2 a3) fun r7 =>
    some (eqI r7 0)) (
    some true)
noncomputable def m16 (a0 : Int) (a1 : (List Rel)) (a2 : Int) (a3 : Int) : Option (Int × Bool) :=
  bnd (m16_1 a0 a1 a2 a3) fun v10 =>
  br v10 (
    some (0, false)) (
    bnd (m45 a1 a2 a3) fun r14 =>
    some (r14, true))
-- f28 spec.DrawMayTell
noncomputable def m28 (a0 : (List Int)) : Option (Int × (List Rel) × Int × Int × Int) :=
  bnd (m57 (⟨a0, 0, 0⟩ : l1Cur)) fun p => sel4 p fun r3 r4 r5 r6 =>
  bnd (m58 (⟨a0, r4, r5⟩ : l1Cur) 5) fun p => sel3 p fun r9 r10 r11 =>
  bnd (m58 (⟨a0, r10, r11⟩ : l1Cur) 5) fun p => sel3 p fun r14 r15 r16 =>
  bnd (m58 (⟨a0, r15, r16⟩ : l1Cur) 5) fun p => sel3 p fun r19 r20 r21 =>
  some (r3, r6, r9, r14, r19)
-- f18 spec.MayTell
noncomputable def m18_1 (a0 : Int) (a1 : (List Rel)) (a2 : Int) (a3 : Int) (a4 : Int) : Option Bool :=
  bnd (m12 a0 a1) fun r3 =>
  br r3 (
    br (eqI a2 a3) (
      some true) (
      br (eqI a3 a4) (
        some true) (
        br (eqI a2 a4) (
          some true) (
          bnd (m45 a1 a2 a3) fun r10 =>
          br (eqI r10 0) (
            some true) (
            bnd (m45 a1 a2 a4) fun r14 =>
            some (eqI r14 0)))))) (
    some true)
noncomputable def m18_2 (a1 : (List Rel)) (a2 : Int) (a3 : Int) (a4 : Int) : Option Bool :=
  bnd (m45 a1 a2 a3) fun r21 =>
  br (eqI r21 1) (
    some true) (
    bnd (m45 a1 a2 a4) fun r25 =>
    some (eqI r25 1))
noncomputable def m18 (a0 : Int) (a1 : (List Rel)) (a2 : Int) (a3 : Int) (a4 : Int) : Option (Bool × Bool) :=
  bnd (m18_1 a0 a1 a2 a3 a4) fun v17 =>
  br v17 (
    some (false, false)) (
    bnd (m18_2 a1 a2 a3 a4) fun v28 =>
    some (v28, true))
-- f8 laws.FnValley
noncomputable def m8_1 (r9 : Bool) (r10 : Bool) (r13 : Bool) (r14 : Bool) : Option Bool :=
  br (eqB r10 r14) (
    some (!eqB r9 r13)) (
    some true)
noncomputable def m8_5 (s44 : Bool) (r64 : Bool) : Option Bool :=
  br s44 (
    some r64) (
    some false)
noncomputable def m8_3b (r4 : Int) (r5 : (List Rel)) (r6 : (List Int)) (p : (Bool × Int)) : Option (Ctl (Bool × Int) (Bool ⊕ Unit)) :=
  sel2 p fun s44 s45 =>
  br (ltI (wadd .i64 s45 1) (↑r6.length : Int)) (
    bnd (idx r6 s45) fun x47 =>
    bnd (idx r6 (wsub .i64 s45 1)) fun x52 =>
    bnd (idx r6 (wadd .i64 s45 1)) fun x57 =>
    bnd (m19 r4 r5 x47 x52 x57) fun p => sel2 p fun r64 r65 =>
    br r65 (
      bnd (m8_5 s44 r64) fun v70 =>
      some (.nxt (v70, wadd .i64 s45 1))) (
      some (.out (.inr ())))) (
    some (.out (.inl s44)))
noncomputable def m8_2 (r4 : Int) (r9 : Bool) (r10 : Bool) (r5 : (List Rel)) (r6 : (List Int)) : Option (Unit ⊕ Unit) :=
  br r10 (
    bnd (loopP (m8_3b r4 r5 r6) (true, 1)) fun o => selS o (fun v73 =>
      br (eqB v73 r9) (
        some (.inl ())) (
        some (.inr ()))) (fun _ =>
      some (.inr ()))) (
    some (.inl ()))
noncomputable def m8_6 (r85 : Int) (r86 : Bool) (r89 : Int) (r90 : Bool) : Option Bool :=
  br (eqB r86 r90) (
    some (!(eqI r85 r89))) (
    some true)
noncomputable def m8_8 (r85 : Int) (r99 : Int) (r100 : Bool) : Option Bool :=
  br r100 (
    some (!(eqI (wadd .i64 r99 r85) 4))) (
    some true)
noncomputable def m8_7 (r79 : Int) (r81 : Int) (r82 : Int) (r85 : Int) (r86 : Bool) (r80 : (List Rel)) : Option (Unit ⊕ Unit) :=
  br r86 (
    bnd (m17 r79 r80 r82 r81) fun p => sel2 p fun r99 r100 =>
    bnd (m8_8 r85 r99 r100) fun v104 =>
    br v104 (
      some (.inr ())) (
      some (.inl ()))) (
    some (.inl ()))
noncomputable def m8_9 (r117 : Bool) (r118 : Bool) (r121 : Bool) (r122 : Bool) : Option Bool :=
  br (eqB r118 r122) (
    some (eqB r117 r121)) (
    some false)
noncomputable def m8 (a0 : (List Int)) (a1 : (List Int)) : Option Bool :=
  br (ltI 1048576 (wadd .i64 (↑a0.length : Int) (↑a1.length : Int))) (
    some true) (
    bnd (m26 a0) fun p => sel3 p fun r4 r5 r6 =>
    bnd (m24 r4 r5 r6) fun p => sel2 p fun r9 r10 =>
    bnd (m22 r4 r5 r6) fun p => sel2 p fun r13 r14 =>
    bnd (m8_1 r9 r10 r13 r14) fun v18 =>
    br v18 (
      some false) (
      bnd (m8_2 r4 r9 r10 r5 r6) fun o => selS o (fun _ =>
        bnd (m27 a1) fun p => sel4 p fun r79 r80 r81 r82 =>
        bnd (m17 r79 r80 r81 r82) fun p => sel2 p fun r85 r86 =>
        bnd (m16 r79 r80 r81 r82) fun p => sel2 p fun r89 r90 =>
        bnd (m8_6 r85 r86 r89 r90) fun v94 =>
        br v94 (
          some false) (
          bnd (m8_7 r79 r81 r82 r85 r86 r80) fun o => selS o (fun _ =>
            bnd (m28 a1) fun p => sel5 p fun r110 r111 r112 r113 r114 =>
            bnd (m19 r110 r111 r112 r113 r114) fun p => sel2 p fun r117 r118 =>
            bnd (m18 r110 r111 r112 r113 r114) fun p => sel2 p fun r121 r122 =>
            bnd (m8_9 r117 r118 r121 r122) fun v126 =>
            some v126) (fun _ =>
            some false))) (fun _ =>
        some false)))
end Go.Pi.Ytichbkallidkcaa.Valley
