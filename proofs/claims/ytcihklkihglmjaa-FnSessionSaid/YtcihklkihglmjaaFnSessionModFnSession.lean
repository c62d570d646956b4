/- What functions of the program answer, and that the law answers true at every input; no condition -/
import Derived.Test.YtcihklkihglmjaaPiC
set_option linter.all false
/- Functions of the program, in plain Lean. -/
namespace Go.Pi.Ytcihklkihglmjaa.FnSession
open Go Go.Pi
set_option maxRecDepth 100000
set_option linter.all false
def wfIntu8 (x : Int) : Prop := 0 ≤ x ∧ x ≤ 255
def wfLIntu8 (x : (List Int)) : Prop := x.length ≤ 9223372036854775807 ∧ ∀ y ∈ x, wfIntu8 y
def wfBool (x : Bool) : Prop := True
def wfInt (x : Int) : Prop := -9223372036854775808 ≤ x ∧ x ≤ 9223372036854775807
structure Evt where
  kind : Int
  n : Int
  deriving Inhabited, DecidableEq
def wfEvt (x : Evt) : Prop := wfInt x.kind ∧ wfInt x.n
def wfLEvt (x : (List Evt)) : Prop := x.length ≤ 9223372036854775807 ∧ ∀ y ∈ x, wfEvt y
def wfIntu64 (x : Int) : Prop := 0 ≤ x ∧ x ≤ 18446744073709551615
structure l1Cur where
  code : (List Int)
  at_ : Int
  seed : Int
  deriving Inhabited, DecidableEq
def wfl1Cur (x : l1Cur) : Prop := wfLIntu8 x.code ∧ wfInt x.at_ ∧ wfIntu64 x.seed
def wfLInt (x : (List Int)) : Prop := x.length ≤ 9223372036854775807 ∧ ∀ y ∈ x, wfInt y
structure Session where
  state : Int
  hold : Int
  left : Int
  quiet : Int
  ups : Int
  deriving Inhabited, DecidableEq
def wfSession (x : Session) : Prop := wfInt x.state ∧ wfInt x.hold ∧ wfInt x.left ∧ wfInt x.quiet ∧ wfInt x.ups
-- f65 (*spec.l1Cur).next
noncomputable def m65_1 (p1 : Bool) (a0 : l1Cur) : Option Int :=
  br p1 (
    bnd (idx a0.code a0.at_) fun x3 =>
    some (wcv .i64 x3)) (
    some 0)
noncomputable def m65 (a0 : l1Cur) : Option (Int × Int × Int) :=
  bnd (m65_1 (ltI a0.at_ (↑a0.code.length : Int)) a0) fun v10 =>
  br (leI (wadd .i64 a0.at_ 1) (↑a0.code.length : Int)) (
    some (v10, wadd .i64 a0.at_ 1, wadd .u64 (wadd .u64 (wmul .u64 a0.seed 6364136223846793005) (wcv .u64 v10)) 1442695040888963407)) (
    some (wcv .i64 (intBits .and .u64 (wshr .u64 (wadd .u64 (wadd .u64 (wmul .u64 a0.seed 6364136223846793005) (wcv .u64 v10)) 1442695040888963407) 40) 255), wadd .i64 a0.at_ 1, wadd .u64 (wadd .u64 (wmul .u64 a0.seed 6364136223846793005) (wcv .u64 v10)) 1442695040888963407))
-- f55 (*spec.l1Cur).pick
noncomputable def m55_1 (r4 : Int) (p7 : Bool) (a0 : l1Cur) (r5 : Int) (r6 : Int) : Option (Int × Int × Int) :=
  br p7 (
    bnd (m65 (⟨a0.code, r5, r6⟩ : l1Cur)) fun p => sel3 p fun r11 r12 r13 =>
    some (wadd .i64 (wmul .i64 r4 256) r11, r12, r13)) (
    some (r4, r5, r6))
noncomputable def m55 (a0 : l1Cur) (a1 : Int) : Option (Int × Int × Int) :=
  br (leI a1 1) (
    some (0, a0.at_, a0.seed)) (
    bnd (m65 a0) fun p => sel3 p fun r4 r5 r6 =>
    bnd (m55_1 r4 (ltI 200 a1) a0 r5 r6) fun p => sel3 p fun v16 v17 v18 =>
    ck (¬ a1 = 0) <|
    some (wrem .i64 v16 a1, v17, v18))
-- f57 (*spec.l1Cur).among
noncomputable def m57 (a0 : l1Cur) (a1 : (List Int)) : Option (Int × Int × Int) :=
  bnd (m55 a0 (↑a1.length : Int)) fun p => sel3 p fun r3 r4 r5 =>
  bnd (idx a1 r3) fun x6 =>
  some (x6, r4, r5)
-- f56 (*spec.l1Cur).one
noncomputable def m56 (a0 : l1Cur) (a1 : Int) : Option (Bool × Int × Int) :=
  bnd (m55 a0 a1) fun p => sel3 p fun r3 r4 r5 =>
  some (eqI r3 0, r4, r5)
-- f58 (*spec.l1Cur).events
noncomputable def m58_1 (p6 : Bool) : Option (List Evt) :=
  br p6 (
    some [(⟨1, 0⟩ : Evt), (⟨3, 0⟩ : Evt)]) (
    some [])
noncomputable def m58_2 (r13 : Bool) (a0 : l1Cur) (r14 : Int) (r15 : Int) (v10 : List Evt) : Option (Int × Int × List Evt) :=
  br r13 (
    bnd (m55 (⟨a0.code, r14, r15⟩ : l1Cur) 20) fun p => sel3 p fun r19 r20 r21 =>
    ck (v10.length + 2 ≤ 4294967296) <|
    some (r20, r21, v10 ++ [(⟨5, wadd .i64 3 r19⟩ : Evt), (⟨7, 0⟩ : Evt)])) (
    some (r14, r15, v10))
noncomputable def m58_3 (r30 : Int) (r35 : Bool) (a0 : l1Cur) (r36 : Int) (r37 : Int) : Option (Int × Int × Int) :=
  br r35 (
    bnd (m55 (⟨a0.code, r36, r37⟩ : l1Cur) 3) fun p => sel3 p fun r41 r42 r43 =>
    some (wadd .i64 98 r41, r42, r43)) (
    some (r30, r36, r37))
noncomputable def m58_7 (r97 : Bool) (a0 : l1Cur) (r98 : Int) (r99 : Int) (p100 : Evt) : Option (Int × Int × Evt) :=
  br r97 (
    bnd (m55 (⟨a0.code, r98, r99⟩ : l1Cur) 10) fun p => sel3 p fun r104 r105 r106 =>
    some (r105, r106, (⟨wadd .i64 1 r104, p100.n⟩ : Evt))) (
    some (r98, r99, p100))
noncomputable def m58_8 (p112 : Bool) (a0 : l1Cur) (v109 : Int) (v110 : Int) (v111 : Evt) : Option (Int × Int × Evt) :=
  br p112 (
    bnd (m57 (⟨a0.code, v109, v110⟩ : l1Cur) [0, 2, 3, 9, 90, 100, 101]) fun p => sel3 p fun r116 r117 r118 =>
    some (r117, r118, (⟨v111.kind, r116⟩ : Evt))) (
    some (v109, v110, v111))
noncomputable def m58_4b (a0 : l1Cur) (p : (Int × Int × Int × List Evt)) : Option (Ctl (Int × Int × Int × List Evt) (Int × Int × List Evt)) :=
  sel4 p fun s85 s86 s87 s88 =>
  br (ltI 0 s85) (
    bnd (m57 (⟨a0.code, s86, s87⟩ : l1Cur) [1, 3, 5, 7, 7, 7, 8, 8, 10, 10, 10, 10]) fun p => sel3 p fun r92 r93 r94 =>
    bnd (m56 (⟨a0.code, r93, r94⟩ : l1Cur) 12) fun p => sel3 p fun r97 r98 r99 =>
    bnd (m58_7 r97 a0 r98 r99 (⟨r92, 0⟩ : Evt)) fun p => sel3 p fun v109 v110 v111 =>
    bnd (m58_8 (eqI v111.kind 5) a0 v109 v110 v111) fun p => sel3 p fun v121 v122 v123 =>
    ck (s88.length + 1 ≤ 4294967296) <|
    some (.nxt (wsub .i64 s85 1, v121, v122, s88 ++ [v123]))) (
    some (.out (s86, s87, s88)))
noncomputable def m58 (a0 : l1Cur) : Option (Int × Int × List Evt) :=
  bnd (m56 a0 6) fun p => sel3 p fun r3 r4 r5 =>
  bnd (m58_1 (!r3)) fun v10 =>
  bnd (m56 (⟨a0.code, r4, r5⟩ : l1Cur) 2) fun p => sel3 p fun r13 r14 r15 =>
  bnd (m58_2 r13 a0 r14 r15 v10) fun p => sel3 p fun v25 v26 v27 =>
  bnd (m55 (⟨a0.code, v25, v26⟩ : l1Cur) 20) fun p => sel3 p fun r30 r31 r32 =>
  bnd (m56 (⟨a0.code, r31, r32⟩ : l1Cur) 20) fun p => sel3 p fun r35 r36 r37 =>
  bnd (m58_3 r30 r35 a0 r36 r37) fun p => sel3 p fun v46 v47 v48 =>
  bnd (loopP (m58_4b a0) (v46, v47, v48, v27)) fun p => sel3 p fun v127 v128 v129 =>
  some (v127, v128, v129)
-- f35 spec.DrawPlayEvents
noncomputable def m35 (a0 : (List Int)) : Option (Int × (List Evt)) :=
  bnd (m57 (⟨a0, 0, 0⟩ : l1Cur) [2, 3, 9, 9, 90]) fun p => sel3 p fun r3 r4 r5 =>
  bnd (m58 (⟨a0, r4, r5⟩ : l1Cur)) fun p => sel3 p fun r8 r9 r10 =>
  some (r3, r10)
-- f40 impl.within
noncomputable def m40_1 (a0 : Int) (a1 : Int) (a2 : Int) : Option Bool :=
  br (leI a1 a0) (
    some (leI a0 a2)) (
    some false)
noncomputable def m40 (a0 : Int) (a1 : Int) (a2 : Int) : Option Bool :=
  bnd (m40_1 a0 a1 a2) fun v4 =>
  some v4
-- f12 impl.NewSession
noncomputable def m12 (a0 : Int) : Option (Session × Bool) :=
  bnd (m40 a0 3 90) fun r3 =>
  br r3 (
    some ((⟨0, a0, 0, 0, 0⟩ : Session), true)) (
    some ((⟨0, 0, 0, 0, 0⟩ : Session), false))
-- f63 slices.IndexFunc[[]impl.Event,impl.Event]
noncomputable def m63_1b (a0 : (List Evt)) (p1 : Int) (a1 : (Evt → Option Bool)) (s12 : Int) : Option (Ctl Int (Unit ⊕ Int)) :=
  br (ltI s12 p1) (
    bnd (idx a0 s12) fun x14 =>
    bnd (a1 x14) fun r19 =>
    br r19 (
      some (.out (.inr s12))) (
      some (.nxt (wadd .i64 s12 1)))) (
    some (.out (.inl ())))
noncomputable def m63 (a0 : (List Evt)) (a1 : (Evt → Option Bool)) : Option Int :=
  bnd (loopP (m63_1b a0 (↑a0.length : Int) a1) 0) fun o => selS o (fun _ =>
    some (-1)) (fun v25 =>
    some v25)
-- f45 slices.ContainsFunc[[]impl.Event,impl.Event]
noncomputable def m45 (a0 : (List Evt)) (a1 : (Evt → Option Bool)) : Option Bool :=
  bnd (m63 a0 a1) fun r3 =>
  some (leI 0 r3)
-- f43 impl.isEvent
noncomputable def m43_1 (a0 : Evt) : Option Bool :=
  bnd (m40 a0.kind 1 10) fun r3 =>
  br r3 (
    br (eqI a0.n 0) (
      some true) (
      br (eqI a0.kind 5) (
        bnd (m40 a0.n 0 100) fun r9 =>
        some r9) (
        some false))) (
    some false)
noncomputable def m43 (a0 : Evt) : Option Bool :=
  bnd (m43_1 a0) fun v12 =>
  some v12
-- f46 impl.PlayEvents$1
noncomputable def m46 (a0 : Evt) : Option Bool :=
  bnd (m43 a0) fun r3 =>
  some (!r3)
-- f61 (impl.Session).to
noncomputable def m61 (a0 : Session) (a1 : Int) : Option Session :=
  some (⟨a1, a0.hold, 0, 0, a0.ups⟩ : Session)
-- f62 (impl.Session).tick
noncomputable def m62 (a0 : Session) : Option (Session × (List Int)) :=
  br (eqI (wsub .i64 a0.left 1) 0) (
    bnd (m61 (⟨a0.state, a0.hold, wsub .i64 a0.left 1, a0.quiet, a0.ups⟩ : Session) 0) fun r4 =>
    some (r4, [3])) (
    br (eqI a0.state 2) (
      some ((⟨a0.state, a0.hold, wsub .i64 a0.left 1, a0.quiet, a0.ups⟩ : Session), [])) (
      br (eqI (wsub .i64 a0.quiet 1) 0) (
        some ((⟨a0.state, a0.hold, wsub .i64 a0.left 1, wquo .i64 a0.hold 3, a0.ups⟩ : Session), [4])) (
        some ((⟨a0.state, a0.hold, wsub .i64 a0.left 1, wsub .i64 a0.quiet 1, a0.ups⟩ : Session), []))))
-- f44 (impl.Session).step
noncomputable def m44_1 (a0 : Session) (a1 : Evt) : Option Bool :=
  br (eqI a1.kind 1) (
    some (eqI a0.state 0)) (
    some false)
noncomputable def m44_2 (p11 : Bool) (a1 : Evt) : Option Bool :=
  br (eqI a1.kind 2) (
    some (!p11)) (
    some false)
noncomputable def m44_3 (a0 : Session) (a1 : Evt) : Option Bool :=
  br (eqI a1.kind 3) (
    some (eqI a0.state 1)) (
    some false)
noncomputable def m44_4 (a0 : Session) (a1 : Evt) : Option Bool :=
  br (eqI a1.kind 5) (
    br (eqI a0.state 2) (
      some (ltI 2 a1.n)) (
      some false)) (
    some false)
noncomputable def m44_5 (a0 : Session) (a1 : Evt) : Option Bool :=
  br (eqI a1.kind 7) (
    some (eqI a0.state 3)) (
    some false)
noncomputable def m44_6 (a0 : Session) (a1 : Evt) : Option Bool :=
  br (eqI a1.kind 7) (
    some (eqI a0.state 4)) (
    br (eqI a1.kind 8) (
      some (eqI a0.state 4)) (
      some false))
noncomputable def m44 (a0 : Session) (a1 : Evt) : Option (Session × (List Int)) :=
  bnd (m44_1 a0 a1) fun v6 =>
  br v6 (
    bnd (m61 a0 1) fun r10 =>
    some (r10, [])) (
    bnd (m44_2 (leI 2 a0.state) a1) fun v16 =>
    br v16 (
      bnd (m61 a0 0) fun r20 =>
      some (r20, [])) (
      bnd (m44_3 a0 a1) fun v26 =>
      br v26 (
        bnd (m61 a0 2) fun r30 =>
        some ((⟨r30.state, r30.hold, 90, r30.quiet, r30.ups⟩ : Session), [1])) (
        br (leI 2 a0.state) (
          br (eqI a1.kind 4) (
            bnd (m61 a0 1) fun r35 =>
            some (r35, [])) (
            bnd (m44_4 a0 a1) fun v41 =>
            br v41 (
              bnd (m61 a0 3) fun r45 =>
              some ((⟨r45.state, wmin a0.hold a1.n, wmin a0.hold a1.n, wquo .i64 (wmin a0.hold a1.n) 3, r45.ups⟩ : Session), [4])) (
              bnd (m44_5 a0 a1) fun v50 =>
              br v50 (
                some ((⟨4, a0.hold, a0.hold, a0.quiet, wmin 1000 (wadd .i64 a0.ups 1)⟩ : Session), [])) (
                bnd (m44_6 a0 a1) fun v57 =>
                br v57 (
                  some ((⟨a0.state, a0.hold, a0.hold, a0.quiet, a0.ups⟩ : Session), [])) (
                  br (eqI a1.kind 9) (
                    bnd (m61 a0 0) fun r62 =>
                    some (r62, [])) (
                    br (eqI a1.kind 10) (
                      bnd (m62 a0) fun p => sel2 p fun r66 r67 =>
                      some (r66, r67)) (
                      bnd (m61 a0 0) fun r70 =>
                      some (r70, [3])))))))) (
          some (a0, [])))))
-- f28 impl.PlayEvents
noncomputable def m28_1 (a1 : (List Evt)) (r4 : Bool) : Option Bool :=
  br r4 (
    br (ltI 100 (↑a1.length : Int)) (
      some true) (
      bnd (m45 a1 (fun y0 => m46 y0)) fun r10 =>
      some r10)) (
    some true)
noncomputable def m28_2b (a1 : (List Evt)) (p15 : Int) (p : (Int × Session × List Int)) : Option (Ctl (Int × Session × List Int) (Session × List Int)) :=
  sel3 p fun s28 s29 s30 =>
  br (ltI s28 p15) (
    bnd (idx a1 s28) fun x32 =>
    bnd (m44 s29 x32) fun p => sel2 p fun r39 r40 =>
    ck (s30.length + r40.length ≤ 4294967296) <|
    some (.nxt (wadd .i64 s28 1, r39, s30 ++ r40))) (
    some (.out (s29, s30)))
noncomputable def m28 (a0 : Int) (a1 : (List Evt)) : Option (Session × (List Int) × Bool) :=
  bnd (m12 a0) fun p => sel2 p fun r3 r4 =>
  bnd (m28_1 a1 r4) fun v13 =>
  br v13 (
    some ((⟨0, 0, 0, 0, 0⟩ : Session), [], false)) (
    bnd (loopP (m28_2b a1 (↑a1.length : Int)) (0, r3, [])) fun p => sel2 p fun v44 v45 =>
    some (v44, v45, true))
-- f39 spec.l1In
noncomputable def m39_1 (a0 : Int) (a1 : Int) (a2 : Int) : Option Bool :=
  br (leI a1 a0) (
    some (leI a0 a2)) (
    some false)
noncomputable def m39 (a0 : Int) (a1 : Int) (a2 : Int) : Option Bool :=
  bnd (m39_1 a0 a1 a2) fun v4 =>
  some v4
-- f11 spec.NewSession
noncomputable def m11 (a0 : Int) : Option (Session × Bool) :=
  bnd (m39 a0 3 90) fun r3 =>
  br r3 (
    some ((⟨0, a0, 0, 0, 0⟩ : Session), true)) (
    some ((⟨0, 0, 0, 0, 0⟩ : Session), false))
-- f41 spec.l12Event
noncomputable def m41_1 (a0 : Evt) : Option Bool :=
  bnd (m39 a0.kind 1 10) fun r7 =>
  br r7 (
    some (eqI a0.n 0)) (
    some false)
noncomputable def m41 (a0 : Evt) : Option Bool :=
  br (eqI a0.kind 5) (
    bnd (m39 a0.n 0 100) fun r4 =>
    some r4) (
    bnd (m41_1 a0) fun v11 =>
    some v11)
-- f60 spec.l12To
noncomputable def m60 (a0 : Session) (a1 : Int) : Option Session :=
  some (⟨a1, a0.hold, 0, 0, a0.ups⟩ : Session)
-- f49 spec.l12Tick
noncomputable def m49 (a0 : Session) : Option (Session × (List Int)) :=
  br (ltI a0.state 2) (
    some (a0, [])) (
    br (eqI (wsub .i64 a0.left 1) 0) (
      bnd (m60 (⟨a0.state, a0.hold, wsub .i64 a0.left 1, a0.quiet, a0.ups⟩ : Session) 0) fun r5 =>
      some (r5, [3])) (
      br (eqI a0.state 2) (
        some ((⟨a0.state, a0.hold, wsub .i64 a0.left 1, a0.quiet, a0.ups⟩ : Session), [])) (
        br (eqI (wsub .i64 a0.quiet 1) 0) (
          some ((⟨a0.state, a0.hold, wsub .i64 a0.left 1, wquo .i64 a0.hold 3, a0.ups⟩ : Session), [4])) (
          some ((⟨a0.state, a0.hold, wsub .i64 a0.left 1, wsub .i64 a0.quiet 1, a0.ups⟩ : Session), [])))))
-- f42 spec.l12Step
noncomputable def m42_1 (a0 : Session) (a1 : Evt) : Option Bool :=
  br (eqI a1.kind 1) (
    some (eqI a0.state 0)) (
    some false)
noncomputable def m42_2 (a0 : Session) (a1 : Evt) : Option Bool :=
  br (eqI a1.kind 3) (
    some (eqI a0.state 1)) (
    some false)
noncomputable def m42_3 (p26 : Bool) (a1 : Evt) : Option Bool :=
  br (eqI a1.kind 4) (
    some p26) (
    some false)
noncomputable def m42_4 (p36 : Bool) (a1 : Evt) : Option Bool :=
  br (eqI a1.kind 9) (
    some p36) (
    some false)
noncomputable def m42_5 (p46 : Bool) (a1 : Evt) : Option Bool :=
  br (eqI a1.kind 2) (
    some (!p46)) (
    some false)
noncomputable def m42_6 (a0 : Session) (a1 : Evt) : Option Bool :=
  br (eqI a1.kind 5) (
    br (eqI a0.state 2) (
      some (leI 3 a1.n)) (
      some false)) (
    some false)
noncomputable def m42_7 (p64 : Bool) (p65 : Session) (a1 : Evt) : Option Session :=
  br p64 (
    some (⟨p65.state, a1.n, p65.left, p65.quiet, p65.ups⟩ : Session)) (
    some p65)
noncomputable def m42_8 (a0 : Session) (a1 : Evt) : Option Bool :=
  br (eqI a1.kind 7) (
    some (leI 3 a0.state)) (
    some false)
noncomputable def m42_10 (a0 : Session) (a1 : Evt) : Option Bool :=
  br (eqI a1.kind 8) (
    some (eqI a0.state 4)) (
    some false)
noncomputable def m42_9 (v75 : Bool) (a0 : Session) (a1 : Evt) : Option Bool :=
  br v75 (
    some v75) (
    bnd (m42_10 a0 a1) fun v81 =>
    some v81)
noncomputable def m42_11 (a0 : Session) : Option Bool :=
  br (eqI a0.state 3) (
    some (ltI a0.ups 1000)) (
    some false)
noncomputable def m42_12 (v90 : Bool) (a0 : Session) : Option Session :=
  br v90 (
    some (⟨a0.state, a0.hold, a0.left, a0.quiet, wadd .i64 a0.ups 1⟩ : Session)) (
    some a0)
noncomputable def m42 (a0 : Session) (a1 : Evt) : Option (Session × (List Int)) :=
  br (eqI a1.kind 10) (
    bnd (m49 a0) fun p => sel2 p fun r4 r5 =>
    some (r4, r5)) (
    bnd (m42_1 a0 a1) fun v11 =>
    br v11 (
      bnd (m60 a0 1) fun r15 =>
      some (r15, [])) (
      bnd (m42_2 a0 a1) fun v21 =>
      br v21 (
        bnd (m60 a0 2) fun r25 =>
        some ((⟨r25.state, r25.hold, 90, r25.quiet, r25.ups⟩ : Session), [1])) (
        bnd (m42_3 (leI 2 a0.state) a1) fun v31 =>
        br v31 (
          bnd (m60 a0 1) fun r35 =>
          some (r35, [])) (
          bnd (m42_4 (leI 2 a0.state) a1) fun v41 =>
          br v41 (
            bnd (m60 a0 0) fun r45 =>
            some (r45, [])) (
            bnd (m42_5 (leI 2 a0.state) a1) fun v51 =>
            br v51 (
              bnd (m60 a0 0) fun r55 =>
              some (r55, [])) (
              br (leI 2 a0.state) (
                bnd (m42_6 a0 a1) fun v62 =>
                br v62 (
                  bnd (m42_7 (ltI a1.n a0.hold) (⟨3, a0.hold, a0.left, a0.quiet, a0.ups⟩ : Session) a1) fun v70 =>
                  some ((⟨v70.state, v70.hold, v70.hold, wquo .i64 v70.hold 3, v70.ups⟩ : Session), [4])) (
                  bnd (m42_8 a0 a1) fun v75 =>
                  bnd (m42_9 v75 a0 a1) fun v84 =>
                  br v84 (
                    bnd (m42_11 a0) fun v90 =>
                    bnd (m42_12 v90 a0) fun v95 =>
                    some ((⟨4, v95.hold, v95.hold, v95.quiet, v95.ups⟩ : Session), [])) (
                    bnd (m60 a0 0) fun r98 =>
                    some (r98, [3])))) (
                some (a0, []))))))))
-- f26 spec.PlayEvents
noncomputable def m26_1 (a1 : (List Evt)) (r4 : Bool) : Option Bool :=
  br r4 (
    some (ltI 100 (↑a1.length : Int))) (
    some true)
noncomputable def m26_2b (a1 : (List Evt)) (p11 : Int) (p : (Int × Session × List Int)) : Option (Ctl (Int × Session × List Int) ((Session × List Int) ⊕ Session)) :=
  sel3 p fun s28 s29 s30 =>
  br (ltI s28 p11) (
    bnd (idx a1 s28) fun x32 =>
    bnd (m41 x32) fun r39 =>
    br r39 (
      bnd (m42 s29 x32) fun p => sel2 p fun r43 r44 =>
      ck (s30.length + r44.length ≤ 4294967296) <|
      some (.nxt (wadd .i64 s28 1, r43, s30 ++ r44))) (
      some (.out (.inr (⟨0, 0, 0, 0, 0⟩ : Session))))) (
    some (.out (.inl (s29, s30))))
noncomputable def m26 (a0 : Int) (a1 : (List Evt)) : Option (Session × (List Int) × Bool) :=
  bnd (m11 a0) fun p => sel2 p fun r3 r4 =>
  bnd (m26_1 a1 r4) fun v9 =>
  br v9 (
    some ((⟨0, 0, 0, 0, 0⟩ : Session), [], false)) (
    bnd (loopP (m26_2b a1 (↑a1.length : Int)) (0, r3, [])) fun o => selS o (fun p => sel2 p fun v48 v49 =>
      some (v48, v49, true)) (fun v50 =>
      some (v50, [], false)))
-- f36 laws.sameInts
noncomputable def m36_1b (a0 : (List Int)) (a1 : (List Int)) (p2 : Int) (s15 : Int) : Option (Ctl Int (Unit ⊕ Unit)) :=
  br (ltI s15 p2) (
    bnd (idx a0 s15) fun x17 =>
    bnd (idx a1 s15) fun x22 =>
    br (eqI x17 x22) (
      some (.nxt (wadd .i64 s15 1))) (
      some (.out (.inr ())))) (
    some (.out (.inl ())))
noncomputable def m36 (a0 : (List Int)) (a1 : (List Int)) : Option Bool :=
  br (eqI (↑a0.length : Int) (↑a1.length : Int)) (
    bnd (loopP (m36_1b a0 a1 (↑a0.length : Int)) 0) fun o => selS o (fun _ =>
      some true) (fun _ =>
      some false)) (
    some false)
-- f16 impl.GoodSession
noncomputable def m16_1 (a0 : Session) : Option Bool :=
  bnd (m40 a0.state 0 4) fun r3 =>
  br r3 (
    bnd (m40 a0.hold 3 90) fun r7 =>
    br r7 (
      bnd (m40 a0.ups 0 1000) fun r11 =>
      some (!r11)) (
      some true)) (
    some true)
noncomputable def m16_2 (p16 : Bool) (p18 : Bool) (a0 : Session) : Option Bool :=
  br p18 (
    bnd (m40 a0.left 1 90) fun r22 =>
    some r22) (
    some p16)
noncomputable def m16_3 (p26 : Bool) (p27 : Bool) (a0 : Session) : Option Bool :=
  br p27 (
    bnd (m40 a0.quiet 1 30) fun r31 =>
    some r31) (
    some p26)
noncomputable def m16_4 (v25 : Bool) (v34 : Bool) : Option Bool :=
  br v25 (
    some v34) (
    some false)
noncomputable def m16 (a0 : Session) : Option Bool :=
  bnd (m16_1 a0) fun v14 =>
  br v14 (
    some false) (
    bnd (m16_2 (eqI a0.left 0) (leI 2 a0.state) a0) fun v25 =>
    bnd (m16_3 (eqI a0.quiet 0) (leI 3 a0.state) a0) fun v34 =>
    bnd (m16_4 v25 v34) fun v38 =>
    some v38)
-- f18 impl.IsUp
noncomputable def m18 (a0 : Session) : Option (Bool × Bool) :=
  bnd (m16 a0) fun r3 =>
  br r3 (
    some (eqI a0.state 4, true)) (
    some (false, false))
-- f21 impl.StepSession
noncomputable def m21_1 (a0 : Session) (a1 : Evt) : Option Bool :=
  bnd (m16 a0) fun r4 =>
  br r4 (
    bnd (m43 a1) fun r8 =>
    some (!r8)) (
    some true)
noncomputable def m21 (a0 : Session) (a1 : Evt) : Option (Session × (List Int) × Bool) :=
  bnd (m21_1 a0 a1) fun v11 =>
  br v11 (
    some ((⟨0, 0, 0, 0, 0⟩ : Session), [], false)) (
    bnd (m44 a0 a1) fun p => sel2 p fun r15 r16 =>
    some (r15, r16, true))
-- f59 (*spec.l1Cur).session
noncomputable def m59_1 (p6 : Bool) (r5 : List Evt) : Option (List Evt) :=
  br p6 (
    ck (0 ≤ 60 ∧ 60 ≤ (↑r5.length : Int)) <|
    some (r5.take 60)) (
    some r5)
noncomputable def m59_2 (p25 : Bool) (r22 : Session) : Option Session :=
  br p25 (
    bnd (m11 9) fun p => sel2 p fun r30 r31 =>
    some r30) (
    some r22)
noncomputable def m59_4 (p48 : Bool) (a0 : l1Cur) (r38 : Int) (r39 : Int) (v34 : Session) : Option (Int × Int × Session) :=
  br p48 (
    bnd (m57 (⟨a0.code, r38, r39⟩ : l1Cur) [0, 1, 91]) fun p => sel3 p fun r52 r53 r54 =>
    some (r53, r54, (⟨v34.state, v34.hold, r52, v34.quiet, v34.ups⟩ : Session))) (
    some (r38, r39, v34))
noncomputable def m59_3 (r37 : Int) (p40 : Bool) (a0 : l1Cur) (r38 : Int) (r39 : Int) (v34 : Session) : Option (Int × Int × Session) :=
  br p40 (
    bnd (m55 (⟨a0.code, r38, r39⟩ : l1Cur) 6) fun p => sel3 p fun r45 r46 r47 =>
    some (r46, r47, (⟨r45, v34.hold, v34.left, v34.quiet, v34.ups⟩ : Session))) (
    bnd (m59_4 (eqI r37 1) a0 r38 r39 v34) fun p => sel3 p fun v57 v58 v59 =>
    some (v57, v58, v59))
noncomputable def m59 (a0 : l1Cur) : Option (Int × Int × Session) :=
  bnd (m58 a0) fun p => sel3 p fun r3 r4 r5 =>
  bnd (m59_1 (ltI 60 (↑r5.length : Int)) r5) fun v14 =>
  bnd (m55 (⟨a0.code, r3, r4⟩ : l1Cur) 20) fun p => sel3 p fun r17 r18 r19 =>
  bnd (m26 (wadd .i64 3 r17) v14) fun p => sel3 p fun r22 r23 r24 =>
  bnd (m59_2 (!r24) r22) fun v34 =>
  bnd (m55 (⟨a0.code, r18, r19⟩ : l1Cur) 30) fun p => sel3 p fun r37 r38 r39 =>
  bnd (m59_3 r37 (eqI r37 0) a0 r38 r39 v34) fun p => sel3 p fun v62 v63 v64 =>
  some (v62, v63, v64)
-- f37 spec.DrawStepSession
noncomputable def m37_1 (p11 : Bool) (a0 : (List Int)) (r9 : Int) (r10 : Int) (p14 : Evt) : Option Evt :=
  br p11 (
    bnd (m57 (⟨a0, r9, r10⟩ : l1Cur) [0, 2, 3, 9, 100, 101]) fun p => sel3 p fun r18 r19 r20 =>
    some (⟨p14.kind, r18⟩ : Evt)) (
    some p14)
noncomputable def m37 (a0 : (List Int)) : Option (Session × Evt) :=
  bnd (m59 (⟨a0, 0, 0⟩ : l1Cur)) fun p => sel3 p fun r3 r4 r5 =>
  bnd (m55 (⟨a0, r3, r4⟩ : l1Cur) 12) fun p => sel3 p fun r8 r9 r10 =>
  bnd (m37_1 (eqI r8 5) a0 r9 r10 (⟨r8, 0⟩ : Evt)) fun v23 =>
  some (r5, v23)
-- f14 spec.GoodSession
noncomputable def m14_1 (a0 : Session) : Option Bool :=
  bnd (m39 a0.state 0 4) fun r3 =>
  br r3 (
    bnd (m39 a0.hold 3 90) fun r7 =>
    br r7 (
      bnd (m39 a0.ups 0 1000) fun r11 =>
      some (!r11)) (
      some true)) (
    some true)
noncomputable def m14_2 (a0 : Session) (p16 : Bool) : Option Bool :=
  br p16 (
    some p16) (
    some (eqI a0.state 1))
noncomputable def m14_3 (a0 : Session) : Option Bool :=
  br (eqI a0.left 0) (
    some (eqI a0.quiet 0)) (
    some false)
noncomputable def m14_4 (a0 : Session) : Option Bool :=
  bnd (m39 a0.left 1 90) fun r29 =>
  br r29 (
    some (eqI a0.quiet 0)) (
    some false)
noncomputable def m14_5 (a0 : Session) : Option Bool :=
  bnd (m39 a0.left 1 90) fun r36 =>
  br r36 (
    bnd (m39 a0.quiet 1 30) fun r40 =>
    some r40) (
    some false)
noncomputable def m14 (a0 : Session) : Option Bool :=
  bnd (m14_1 a0) fun v14 =>
  br v14 (
    some false) (
    bnd (m14_2 a0 (eqI a0.state 0)) fun v20 =>
    br v20 (
      bnd (m14_3 a0) fun v25 =>
      some v25) (
      br (eqI a0.state 2) (
        bnd (m14_4 a0) fun v33 =>
        some v33) (
        bnd (m14_5 a0) fun v43 =>
        some v43)))
-- f19 spec.StepSession
noncomputable def m19_1 (a0 : Session) (a1 : Evt) : Option Bool :=
  bnd (m14 a0) fun r4 =>
  br r4 (
    bnd (m41 a1) fun r8 =>
    some (!r8)) (
    some true)
noncomputable def m19 (a0 : Session) (a1 : Evt) : Option (Session × (List Int) × Bool) :=
  bnd (m19_1 a0 a1) fun v11 =>
  br v11 (
    some ((⟨0, 0, 0, 0, 0⟩ : Session), [], false)) (
    bnd (m42 a0 a1) fun p => sel2 p fun r15 r16 =>
    some (r15, r16, true))
-- f38 spec.DrawNewSession
noncomputable def m38 (a0 : (List Int)) : Option Int :=
  bnd (m57 (⟨a0, 0, 0⟩ : l1Cur) [2, 3, 9, 90, 91]) fun p => sel3 p fun r3 r4 r5 =>
  some r3
-- f10 laws.FnSession
noncomputable def m10_1 (r10 : Bool) (r15 : Bool) (r8 : Session) (r9 : (List Int)) (r13 : Session) (r14 : (List Int)) : Option Bool :=
  br (eqB r10 r15) (
    br (eqI r8.state r13.state && (eqI r8.hold r13.hold && (eqI r8.left r13.left && (eqI r8.quiet r13.quiet && eqI r8.ups r13.ups)))) (
      bnd (m36 r9 r14) fun r20 =>
      some (!r20)) (
      some true)) (
    some true)
noncomputable def m10_7 (s45 : Int) (p55 : Bool) : Option Int :=
  br p55 (
    some (wadd .i64 s45 1)) (
    some s45)
noncomputable def m10_6 (s44 : Int) (s45 : Int) (x48 : Evt) (p53 : Bool) : Option (Int × Int) :=
  br p53 (
    some (wadd .i64 s44 1, s45)) (
    bnd (m10_7 s45 (eqI x48.kind 7)) fun v59 =>
    some (s44, v59))
noncomputable def m10_3b (p26 : Int) (r5 : (List Evt)) (p : (Int × Int × Int)) : Option (Ctl (Int × Int × Int) (Int × Int)) :=
  sel3 p fun s44 s45 s46 =>
  br (ltI s46 p26) (
    bnd (idx r5 s46) fun x48 =>
    bnd (m10_6 s44 s45 x48 (eqI x48.kind 5)) fun p => sel2 p fun v62 v63 =>
    some (.nxt (v62, v63, wadd .i64 s46 1))) (
    some (.out (s44, s45)))
noncomputable def m10_8 (r4 : Int) (v66 : Int) (v67 : Int) (r70 : Bool) (r71 : Bool) (r8 : Session) : Option Bool :=
  bnd (m16 r8) fun r74 =>
  br r74 (
    br r71 (
      br (ltI v66 r8.ups) (
        some true) (
        br (ltI v67 r8.ups) (
          some true) (
          br r70 (
            br (eqI r8.ups 0) (
              some true) (
              some (ltI r4 r8.hold))) (
            some (ltI r4 r8.hold))))) (
      some true)) (
    some true)
noncomputable def m10_9b (r8 : Session) (p : (Int × Session)) : Option (Ctl (Int × Session) (Session ⊕ Unit)) :=
  sel2 p fun s92 s93 =>
  br (ltI s92 r8.left) (
    bnd (m21 s93 (⟨10, 0⟩ : Evt)) fun p => sel3 p fun r97 r98 r99 =>
    br r99 (
      some (.nxt (wadd .i64 s92 1, r97))) (
      some (.out (.inr ())))) (
    some (.out (.inl s93)))
noncomputable def m10_10 (r8 : Session) (v103 : Session) : Option Bool :=
  br (leI 2 r8.state) (
    some (!(eqI v103.state 0))) (
    some false)
noncomputable def m10_2 (r4 : Int) (r10 : Bool) (r5 : (List Evt)) (r8 : Session) : Option (Unit ⊕ Unit) :=
  br r10 (
    bnd (loopP (m10_3b (↑r5.length : Int) r5) (0, 0, 0)) fun p => sel2 p fun v66 v67 =>
    bnd (m18 r8) fun p => sel2 p fun r70 r71 =>
    bnd (m10_8 r4 v66 v67 r70 r71 r8) fun v83 =>
    br v83 (
      some (.inr ())) (
      bnd (loopP (m10_9b r8) (0, r8)) fun o => selS o (fun v103 =>
        bnd (m10_10 r8 v103) fun v107 =>
        br v107 (
          some (.inr ())) (
          some (.inl ()))) (fun _ =>
        some (.inr ())))) (
    some (.inl ()))
noncomputable def m10_11 (r119 : Bool) (r124 : Bool) (r131 : Bool) (r135 : Bool) (r113 : Session) (r117 : Session) (r118 : (List Int)) (r122 : Session) (r123 : (List Int)) (r130 : Session) (r134 : Session) : Option Bool :=
  br (eqB r119 r124) (
    br (eqI r117.state r122.state && (eqI r117.hold r122.hold && (eqI r117.left r122.left && (eqI r117.quiet r122.quiet && eqI r117.ups r122.ups)))) (
      bnd (m36 r118 r123) fun r140 =>
      br r140 (
        br (eqB r131 r135) (
          br (eqI r130.state r134.state && (eqI r130.hold r134.hold && (eqI r130.left r134.left && (eqI r130.quiet r134.quiet && eqI r130.ups r134.ups)))) (
            bnd (m16 r113) fun r146 =>
            bnd (m14 r113) fun r149 =>
            some (!eqB r146 r149)) (
            some true)) (
          some true)) (
        some true)) (
      some true)) (
    some true)
noncomputable def m10_12 (r119 : Bool) (r117 : Session) : Option Bool :=
  br r119 (
    bnd (m16 r117) fun r157 =>
    some r157) (
    some true)
noncomputable def m10 (a0 : (List Int)) (a1 : (List Int)) : Option Bool :=
  br (ltI 1048576 (wadd .i64 (↑a0.length : Int) (↑a1.length : Int))) (
    some true) (
    bnd (m35 a0) fun p => sel2 p fun r4 r5 =>
    bnd (m28 r4 r5) fun p => sel3 p fun r8 r9 r10 =>
    bnd (m26 r4 r5) fun p => sel3 p fun r13 r14 r15 =>
    bnd (m10_1 r10 r15 r8 r9 r13 r14) fun v23 =>
    br v23 (
      some false) (
      bnd (m10_2 r4 r10 r5 r8) fun o => selS o (fun _ =>
        bnd (m37 a1) fun p => sel2 p fun r113 r114 =>
        bnd (m21 r113 r114) fun p => sel3 p fun r117 r118 r119 =>
        bnd (m19 r113 r114) fun p => sel3 p fun r122 r123 r124 =>
        bnd (m38 a1) fun r127 =>
        bnd (m12 r127) fun p => sel2 p fun r130 r131 =>
        bnd (m11 r127) fun p => sel2 p fun r134 r135 =>
        bnd (m10_11 r119 r124 r131 r135 r113 r117 r118 r122 r123 r130 r134) fun v152 =>
        br v152 (
          some false) (
          bnd (m10_12 r119 r117) fun v160 =>
          some v160)) (fun _ =>
        some false)))
end Go.Pi.Ytcihklkihglmjaa.FnSession
