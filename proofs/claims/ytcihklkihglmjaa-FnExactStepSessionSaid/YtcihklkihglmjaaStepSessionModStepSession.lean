/- What functions of the program answer, and that the law answers true at every input; no condition -/
import Derived.Test.YtcihklkihglmjaaPiC
set_option linter.all false
/- Functions of the program, in plain Lean. -/
namespace Go.Pi.Ytcihklkihglmjaa.StepSession
open Go Go.Pi
set_option maxRecDepth 100000
set_option linter.all false
def wfInt (x : Int) : Prop := -9223372036854775808 ≤ x ∧ x ≤ 9223372036854775807
structure Session where
  state : Int
  hold : Int
  left : Int
  quiet : Int
  ups : Int
  deriving Inhabited, DecidableEq
def wfSession (x : Session) : Prop := wfInt x.state ∧ wfInt x.hold ∧ wfInt x.left ∧ wfInt x.quiet ∧ wfInt x.ups
structure Evt where
  kind : Int
  n : Int
  deriving Inhabited, DecidableEq
def wfEvt (x : Evt) : Prop := wfInt x.kind ∧ wfInt x.n
def wfBool (x : Bool) : Prop := True
def wfLInt (x : (List Int)) : Prop := x.length ≤ 9223372036854775807 ∧ ∀ y ∈ x, wfInt y
-- f15 laws.toSession
noncomputable def m15 (a0 : Session) : Option Session :=
  some a0
-- f20 laws.toEvent
noncomputable def m20 (a0 : Evt) : Option Evt :=
  some a0
-- f39 spec.l1In
noncomputable def m39_1 (a0 : Int) (a1 : Int) (a2 : Int) : Option Bool :=
  br (leI a1 a0) (
    some (leI a0 a2)) (
    some false)
noncomputable def m39 (a0 : Int) (a1 : Int) (a2 : Int) : Option Bool :=
  bnd (m39_1 a0 a1 a2) fun v4 =>
  some v4
-- f14 spec.GoodSession
noncomputable def m14_1 (a0 : Session) : Option Bool :=
  bnd (m39 a0.state 0 4) fun r3 =>
  br r3 (
    bnd (m39 a0.hold 3 90) fun r7 =>
    br r7 (
      bnd (m39 a0.ups 0 1000) fun r11 =>
      some (!r11)) (
      some true)) (
    some true)
noncomputable def m14_2 (a0 : Session) (p16 : Bool) : Option Bool :=
  br p16 (
    some p16) (
    some (eqI a0.state 1))
noncomputable def m14_3 (a0 : Session) : Option Bool :=
  br (eqI a0.left 0) (
    some (eqI a0.quiet 0)) (
    some false)
noncomputable def m14_4 (a0 : Session) : Option Bool :=
  bnd (m39 a0.left 1 90) fun r29 =>
  br r29 (
    some (eqI a0.quiet 0)) (
    some false)
noncomputable def m14_5 (a0 : Session) : Option Bool :=
  bnd (m39 a0.left 1 90) fun r36 =>
  br r36 (
    bnd (m39 a0.quiet 1 30) fun r40 =>
    some r40) (
    some false)
noncomputable def m14 (a0 : Session) : Option Bool :=
  bnd (m14_1 a0) fun v14 =>
  br v14 (
    some false) (
    bnd (m14_2 a0 (eqI a0.state 0)) fun v20 =>
    br v20 (
      bnd (m14_3 a0) fun v25 =>
      some v25) (
      br (eqI a0.state 2) (
        bnd (m14_4 a0) fun v33 =>
        some v33) (
        bnd (m14_5 a0) fun v43 =>
        some v43)))
-- f41 spec.l12Event
noncomputable def m41_1 (a0 : Evt) : Option Bool :=
  bnd (m39 a0.kind 1 10) fun r7 =>
  br r7 (
    some (eqI a0.n 0)) (
    some false)
noncomputable def m41 (a0 : Evt) : Option Bool :=
  br (eqI a0.kind 5) (
    bnd (m39 a0.n 0 100) fun r4 =>
    some r4) (
    bnd (m41_1 a0) fun v11 =>
    some v11)
-- f60 spec.l12To
noncomputable def m60 (a0 : Session) (a1 : Int) : Option Session :=
  some (⟨a1, a0.hold, 0, 0, a0.ups⟩ : Session)
-- f49 spec.l12Tick
noncomputable def m49 (a0 : Session) : Option (Session × (List Int)) :=
  br (ltI a0.state 2) (
    some (a0, [])) (
    br (eqI (wsub .i64 a0.left 1) 0) (
      bnd (m60 (⟨a0.state, a0.hold, wsub .i64 a0.left 1, a0.quiet, a0.ups⟩ : Session) 0) fun r5 =>
      some (r5, [3])) (
      br (eqI a0.state 2) (
        some ((⟨a0.state, a0.hold, wsub .i64 a0.left 1, a0.quiet, a0.ups⟩ : Session), [])) (
        br (eqI (wsub .i64 a0.quiet 1) 0) (
          some ((⟨a0.state, a0.hold, wsub .i64 a0.left 1, wquo .i64 a0.hold 3, a0.ups⟩ : Session), [4])) (
          some ((⟨a0.state, a0.hold, wsub .i64 a0.left 1, wsub .i64 a0.quiet 1, a0.ups⟩ : Session), [])))))
-- f42 spec.l12Step
noncomputable def m42_1 (a0 : Session) (a1 : Evt) : Option Bool :=
  br (eqI a1.kind 1) (
    some (eqI a0.state 0)) (
    some false)
noncomputable def m42_2 (a0 : Session) (a1 : Evt) : Option Bool :=
  br (eqI a1.kind 3) (
    some (eqI a0.state 1)) (
    some false)
noncomputable def m42_3 (p24 : Bool) (a1 : Evt) : Option Bool :=
  br (eqI a1.kind 4) (
    some p24) (
    some false)
noncomputable def m42_4 (p33 : Bool) (a1 : Evt) : Option Bool :=
  br (eqI a1.kind 9) (
    some p33) (
    some false)
noncomputable def m42_5 (p42 : Bool) (a1 : Evt) : Option Bool :=
  br (eqI a1.kind 2) (
    some (!p42)) (
    some false)
noncomputable def m42_6 (a0 : Session) (a1 : Evt) : Option Bool :=
  br (eqI a1.kind 5) (
    br (eqI a0.state 2) (
      some (leI 3 a1.n)) (
      some false)) (
    some false)
noncomputable def m42_7 (p58 : Bool) (a0 : Session) (a1 : Evt) : Option Int :=
  br p58 (
    some a1.n) (
    some a0.hold)
noncomputable def m42_8 (a0 : Session) (a1 : Evt) : Option Bool :=
  br (eqI a1.kind 7) (
    some (leI 3 a0.state)) (
    some false)
noncomputable def m42_10 (a0 : Session) (a1 : Evt) : Option Bool :=
  br (eqI a1.kind 8) (
    some (eqI a0.state 4)) (
    some false)
noncomputable def m42_9 (v66 : Bool) (a0 : Session) (a1 : Evt) : Option Bool :=
  br v66 (
    some v66) (
    bnd (m42_10 a0 a1) fun v71 =>
    some v71)
noncomputable def m42_11 (a0 : Session) : Option Bool :=
  br (eqI a0.state 3) (
    some (ltI a0.ups 1000)) (
    some false)
noncomputable def m42_12 (v79 : Bool) (a0 : Session) : Option Int :=
  br v79 (
    some (wadd .i64 a0.ups 1)) (
    some a0.ups)
noncomputable def m42 (a0 : Session) (a1 : Evt) : Option (Session × (List Int)) :=
  br (eqI a1.kind 10) (
    bnd (m49 a0) fun p => sel2 p fun r4 r5 =>
    some (r4, r5)) (
    bnd (m42_1 a0 a1) fun v10 =>
    br v10 (
      bnd (m60 a0 1) fun r14 =>
      some (r14, [])) (
      bnd (m42_2 a0 a1) fun v19 =>
      br v19 (
        bnd (m60 a0 2) fun r23 =>
        some ((⟨r23.state, r23.hold, 90, r23.quiet, r23.ups⟩ : Session), [1])) (
        bnd (m42_3 (leI 2 a0.state) a1) fun v28 =>
        br v28 (
          bnd (m60 a0 1) fun r32 =>
          some (r32, [])) (
          bnd (m42_4 (leI 2 a0.state) a1) fun v37 =>
          br v37 (
            bnd (m60 a0 0) fun r41 =>
            some (r41, [])) (
            bnd (m42_5 (leI 2 a0.state) a1) fun v46 =>
            br v46 (
              bnd (m60 a0 0) fun r50 =>
              some (r50, [])) (
              br (leI 2 a0.state) (
                bnd (m42_6 a0 a1) fun v56 =>
                br v56 (
                  bnd (m42_7 (ltI a1.n a0.hold) a0 a1) fun v62 =>
                  some ((⟨3, v62, v62, wquo .i64 v62 3, a0.ups⟩ : Session), [4])) (
                  bnd (m42_8 a0 a1) fun v66 =>
                  bnd (m42_9 v66 a0 a1) fun v74 =>
                  br v74 (
                    bnd (m42_11 a0) fun v79 =>
                    bnd (m42_12 v79 a0) fun v83 =>
                    some ((⟨4, a0.hold, a0.hold, a0.quiet, v83⟩ : Session), [])) (
                    bnd (m60 a0 0) fun r86 =>
                    some (r86, [3])))) (
                some (a0, []))))))))
-- f19 spec.StepSession
noncomputable def m19_1 (a0 : Session) (a1 : Evt) : Option Bool :=
  bnd (m14 a0) fun r3 =>
  br r3 (
    bnd (m41 a1) fun r7 =>
    some (!r7)) (
    some true)
noncomputable def m19 (a0 : Session) (a1 : Evt) : Option (Session × (List Int) × Bool) :=
  bnd (m19_1 a0 a1) fun v10 =>
  br v10 (
    some ((⟨0, 0, 0, 0, 0⟩ : Session), [], false)) (
    bnd (m42 a0 a1) fun p => sel2 p fun r14 r15 =>
    some (r14, r15, true))
-- f40 impl.within
noncomputable def m40_1 (a0 : Int) (a1 : Int) (a2 : Int) : Option Bool :=
  br (leI a1 a0) (
    some (leI a0 a2)) (
    some false)
noncomputable def m40 (a0 : Int) (a1 : Int) (a2 : Int) : Option Bool :=
  bnd (m40_1 a0 a1 a2) fun v4 =>
  some v4
-- f16 impl.GoodSession
noncomputable def m16_1 (a0 : Session) : Option Bool :=
  bnd (m40 a0.state 0 4) fun r3 =>
  br r3 (
    bnd (m40 a0.hold 3 90) fun r7 =>
    br r7 (
      bnd (m40 a0.ups 0 1000) fun r11 =>
      some (!r11)) (
      some true)) (
    some true)
noncomputable def m16_2 (p16 : Bool) (p18 : Bool) (a0 : Session) : Option Bool :=
  br p18 (
    bnd (m40 a0.left 1 90) fun r22 =>
    some r22) (
    some p16)
noncomputable def m16_3 (p26 : Bool) (p27 : Bool) (a0 : Session) : Option Bool :=
  br p27 (
    bnd (m40 a0.quiet 1 30) fun r31 =>
    some r31) (
    some p26)
noncomputable def m16_4 (v25 : Bool) (v34 : Bool) : Option Bool :=
  br v25 (
    some v34) (
    some false)
noncomputable def m16 (a0 : Session) : Option Bool :=
  bnd (m16_1 a0) fun v14 =>
  br v14 (
    some false) (
    bnd (m16_2 (eqI a0.left 0) (leI 2 a0.state) a0) fun v25 =>
    bnd (m16_3 (eqI a0.quiet 0) (leI 3 a0.state) a0) fun v34 =>
    bnd (m16_4 v25 v34) fun v38 =>
    some v38)
-- f43 impl.isEvent
noncomputable def m43_1 (a0 : Evt) : Option Bool :=
  bnd (m40 a0.kind 1 10) fun r3 =>
  br r3 (
    br (eqI a0.n 0) (
      some true) (
      br (eqI a0.kind 5) (
        bnd (m40 a0.n 0 100) fun r9 =>
        some r9) (
        some false))) (
    some false)
noncomputable def m43 (a0 : Evt) : Option Bool :=
  bnd (m43_1 a0) fun v12 =>
  some v12
-- f61 (impl.Session).to
noncomputable def m61 (a0 : Session) (a1 : Int) : Option Session :=
  some (⟨a1, a0.hold, 0, 0, a0.ups⟩ : Session)
-- f62 (impl.Session).tick
noncomputable def m62 (a0 : Session) : Option (Session × (List Int)) :=
  br (eqI (wsub .i64 a0.left 1) 0) (
    bnd (m61 (⟨a0.state, a0.hold, wsub .i64 a0.left 1, a0.quiet, a0.ups⟩ : Session) 0) fun r4 =>
    some (r4, [3])) (
    br (eqI a0.state 2) (
      some ((⟨a0.state, a0.hold, wsub .i64 a0.left 1, a0.quiet, a0.ups⟩ : Session), [])) (
      br (eqI (wsub .i64 a0.quiet 1) 0) (
        some ((⟨a0.state, a0.hold, wsub .i64 a0.left 1, wquo .i64 a0.hold 3, a0.ups⟩ : Session), [4])) (
        some ((⟨a0.state, a0.hold, wsub .i64 a0.left 1, wsub .i64 a0.quiet 1, a0.ups⟩ : Session), []))))
-- f44 (impl.Session).step
noncomputable def m44_1 (a0 : Session) (a1 : Evt) : Option Bool :=
  br (eqI a1.kind 1) (
    some (eqI a0.state 0)) (
    some false)
noncomputable def m44_2 (p10 : Bool) (a1 : Evt) : Option Bool :=
  br (eqI a1.kind 2) (
    some (!p10)) (
    some false)
noncomputable def m44_3 (a0 : Session) (a1 : Evt) : Option Bool :=
  br (eqI a1.kind 3) (
    some (eqI a0.state 1)) (
    some false)
noncomputable def m44_4 (a0 : Session) (a1 : Evt) : Option Bool :=
  br (eqI a1.kind 5) (
    br (eqI a0.state 2) (
      some (ltI 2 a1.n)) (
      some false)) (
    some false)
noncomputable def m44_5 (a0 : Session) (a1 : Evt) : Option Bool :=
  br (eqI a1.kind 7) (
    some (eqI a0.state 3)) (
    some false)
noncomputable def m44_6 (a0 : Session) (a1 : Evt) : Option Bool :=
  br (eqI a1.kind 7) (
    some (eqI a0.state 4)) (
    br (eqI a1.kind 8) (
      some (eqI a0.state 4)) (
      some false))
noncomputable def m44 (a0 : Session) (a1 : Evt) : Option (Session × (List Int)) :=
  bnd (m44_1 a0 a1) fun v5 =>
  br v5 (
    bnd (m61 a0 1) fun r9 =>
    some (r9, [])) (
    bnd (m44_2 (leI 2 a0.state) a1) fun v14 =>
    br v14 (
      bnd (m61 a0 0) fun r18 =>
      some (r18, [])) (
      bnd (m44_3 a0 a1) fun v23 =>
      br v23 (
        bnd (m61 a0 2) fun r27 =>
        some ((⟨r27.state, r27.hold, 90, r27.quiet, r27.ups⟩ : Session), [1])) (
        br (leI 2 a0.state) (
          br (eqI a1.kind 4) (
            bnd (m61 a0 1) fun r32 =>
            some (r32, [])) (
            bnd (m44_4 a0 a1) fun v37 =>
            br v37 (
              bnd (m61 a0 3) fun r41 =>
              some ((⟨r41.state, wmin a0.hold a1.n, wmin a0.hold a1.n, wquo .i64 (wmin a0.hold a1.n) 3, r41.ups⟩ : Session), [4])) (
              bnd (m44_5 a0 a1) fun v45 =>
              br v45 (
                some ((⟨4, a0.hold, a0.hold, a0.quiet, wmin 1000 (wadd .i64 a0.ups 1)⟩ : Session), [])) (
                bnd (m44_6 a0 a1) fun v51 =>
                br v51 (
                  some ((⟨a0.state, a0.hold, a0.hold, a0.quiet, a0.ups⟩ : Session), [])) (
                  br (eqI a1.kind 9) (
                    bnd (m61 a0 0) fun r56 =>
                    some (r56, [])) (
                    br (eqI a1.kind 10) (
                      bnd (m62 a0) fun p => sel2 p fun r60 r61 =>
                      some (r60, r61)) (
                      bnd (m61 a0 0) fun r64 =>
                      some (r64, [3])))))))) (
          some (a0, [])))))
-- f21 impl.StepSession
noncomputable def m21_1 (a0 : Session) (a1 : Evt) : Option Bool :=
  bnd (m16 a0) fun r3 =>
  br r3 (
    bnd (m43 a1) fun r7 =>
    some (!r7)) (
    some true)
noncomputable def m21 (a0 : Session) (a1 : Evt) : Option (Session × (List Int) × Bool) :=
  bnd (m21_1 a0 a1) fun v10 =>
  br v10 (
    some ((⟨0, 0, 0, 0, 0⟩ : Session), [], false)) (
    bnd (m44 a0 a1) fun p => sel2 p fun r14 r15 =>
    some (r14, r15, true))
-- f13 laws.eqSession
noncomputable def m13 (a0 : Session) (a1 : Session) : Option Bool :=
  br (eqI a0.state a1.state) (
    br (eqI a0.hold a1.hold) (
      br (eqI a0.left a1.left) (
        br (eqI a0.quiet a1.quiet) (
          br (eqI a0.ups a1.ups) (
            some true) (
            some false)) (
          some false)) (
        some false)) (
      some false)) (
    some false)
-- f22 laws.eqIntS
noncomputable def m22_1b (a0 : (List Int)) (a1 : (List Int)) (s14 : Int) : Option (Ctl Int (Unit ⊕ Unit)) :=
  br (ltI s14 (↑a0.length : Int)) (
    bnd (idx a0 s14) fun x16 =>
    bnd (idx a1 s14) fun x21 =>
    br (eqI x16 x21) (
      some (.nxt (wadd .i64 s14 1))) (
      some (.out (.inr ())))) (
    some (.out (.inl ())))
noncomputable def m22 (a0 : (List Int)) (a1 : (List Int)) : Option Bool :=
  br (eqI (↑a0.length : Int) (↑a1.length : Int)) (
    bnd (loopP (m22_1b a0 a1) 0) fun o => selS o (fun _ =>
      some true) (fun _ =>
      some false)) (
    some false)
-- f23 laws.markIntS
noncomputable def m23_1b (p : (Int × Int × List Int)) : Option (Ctl (Int × Int × List Int) (Int × List Int)) :=
  sel3 p fun s7 s8 s9 =>
  br (ltI s8 (↑s9.length : Int)) (
    bnd (idx s9 s8) fun x11 =>
    some (.nxt (wadd .i64 s7 1, wadd .i64 s8 1, s9.set s8.toNat s7))) (
    some (.out (s7, s9)))
noncomputable def m23 (a0 : (List Int)) (a1 : Int) : Option (Int × List Int) :=
  bnd (loopP (m23_1b) (a1, 0, a0)) fun p => sel2 p fun v18 v19 =>
  some (v18, v19)
-- f24 laws.heldIntS
noncomputable def m24_1b (a0 : (List Int)) (p : (Int × Int)) : Option (Ctl (Int × Int) (Int ⊕ Unit)) :=
  sel2 p fun s8 s9 =>
  br (ltI s9 (↑a0.length : Int)) (
    bnd (idx a0 s9) fun x11 =>
    br (eqI x11 s8) (
      some (.nxt (wadd .i64 s8 1, wadd .i64 s9 1))) (
      some (.out (.inr ())))) (
    some (.out (.inl s8)))
noncomputable def m24 (a0 : (List Int)) (a1 : Int) : Option Int :=
  bnd (loopP (m24_1b a0) (a1, 0)) fun o => selS o (fun v19 =>
    some v19) (fun _ =>
    some (-1))
-- f6 laws.FnExactStepSession
noncomputable def m6_1 (r11 : Bool) (r20 : Bool) (r9 : Session) (r10 : (List Int)) (r18 : Session) (r19 : (List Int)) : Option Bool :=
  bnd (m13 r18 r9) fun r23 =>
  br r23 (
    bnd (m22 r19 r10) fun r27 =>
    br r27 (
      some (!eqB r20 r11)) (
      some true)) (
    some true)
noncomputable def m6_2 (r11 : Bool) (r20 : Bool) (r9 : Session) (r10 : (List Int)) (r18 : Session) (r19 : (List Int)) : Option Bool :=
  bnd (m13 r18 r9) fun r51 =>
  br r51 (
    bnd (m22 r19 r10) fun r55 =>
    br r55 (
      some (!eqB r20 r11)) (
      some true)) (
    some true)
noncomputable def m6 (a0 : Session) (a1 : Evt) : Option Bool :=
  bnd (m15 a0) fun r3 =>
  bnd (m20 a1) fun r6 =>
  bnd (m19 r3 r6) fun p => sel3 p fun r9 r10 r11 =>
  bnd (m21 r3 r6) fun p => sel3 p fun r18 r19 r20 =>
  bnd (m6_1 r11 r20 r9 r10 r18 r19) fun v31 =>
  br v31 (
    some false) (
    bnd (m23 r19 1) fun p => sel2 p fun r35 r36 =>
    ck (r36.length = r19.length) <|
    bnd (m24 r36 1) fun r40 =>
    br (ltI r40 0) (
      some false) (
      br (eqI r40 r35) (
        bnd (m6_2 r11 r20 r9 r10 r18 r19) fun v59 =>
        br v59 (
          some false) (
          some true)) (
        some false)))
end Go.Pi.Ytcihklkihglmjaa.StepSession
