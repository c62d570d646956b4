/- What functions of the program answer, and that the law answers true at every input; no condition -/
import Derived.Test.YtcihklkihglmjaaPiC
set_option linter.all false
/- Functions of the program, in plain Lean. -/
namespace Go.Pi.Ytcihklkihglmjaa.PlayEvents
open Go Go.Pi
set_option maxRecDepth 100000
set_option linter.all false
def wfInt (x : Int) : Prop := -9223372036854775808 ≤ x ∧ x ≤ 9223372036854775807
structure Evt where
  kind : Int
  n : Int
  deriving Inhabited, DecidableEq
def wfEvt (x : Evt) : Prop := wfInt x.kind ∧ wfInt x.n
def wfLEvt (x : (List Evt)) : Prop := x.length ≤ 9223372036854775807 ∧ ∀ y ∈ x, wfEvt y
def wfBool (x : Bool) : Prop := True
structure Session where
  state : Int
  hold : Int
  left : Int
  quiet : Int
  ups : Int
  deriving Inhabited, DecidableEq
def wfSession (x : Session) : Prop := wfInt x.state ∧ wfInt x.hold ∧ wfInt x.left ∧ wfInt x.quiet ∧ wfInt x.ups
def wfLInt (x : (List Int)) : Prop := x.length ≤ 9223372036854775807 ∧ ∀ y ∈ x, wfInt y
-- f25 laws.szEventS
noncomputable def m25 (a0 : (List Evt)) (a1 : Int) : Option Int :=
  br (ltI (wsub .i64 a1 (↑a0.length : Int)) 0) (
    some (-1)) (
    some (wsub .i64 a1 (↑a0.length : Int)))
-- f20 laws.toEvent
noncomputable def m20 (a0 : Evt) : Option Evt :=
  some a0
-- f27 laws.toEventS
noncomputable def m27_1b (a0 : (List Evt)) (p : (Int × List Evt)) : Option (Ctl (Int × List Evt) (List Evt)) :=
  sel2 p fun s17 s18 =>
  br (ltI s17 (↑a0.length : Int)) (
    bnd (idx a0 s17) fun x20 =>
    bnd (m20 x20) fun r27 =>
    bnd (idx s18 s17) fun x28 =>
    some (.nxt (wadd .i64 s17 1, s18.set s17.toNat r27))) (
    some (.out s18))
noncomputable def m27 (a0 : (List Evt)) : Option (List Evt) :=
  ck (0 ≤ (↑a0.length : Int) ∧ (↑a0.length : Int) ≤ (↑a0.length : Int) ∧ (↑a0.length : Int) ≤ 4294967296) <|
  bnd (loopP (m27_1b a0) (0, List.replicate a0.length (⟨0, 0⟩ : Evt))) fun v35 =>
  some v35
-- f39 spec.l1In
noncomputable def m39_1 (a0 : Int) (a1 : Int) (a2 : Int) : Option Bool :=
  br (leI a1 a0) (
    some (leI a0 a2)) (
    some false)
noncomputable def m39 (a0 : Int) (a1 : Int) (a2 : Int) : Option Bool :=
  bnd (m39_1 a0 a1 a2) fun v4 =>
  some v4
-- f11 spec.NewSession
noncomputable def m11 (a0 : Int) : Option (Session × Bool) :=
  bnd (m39 a0 3 90) fun r3 =>
  br r3 (
    some ((⟨0, a0, 0, 0, 0⟩ : Session), true)) (
    some ((⟨0, 0, 0, 0, 0⟩ : Session), false))
-- f41 spec.l12Event
noncomputable def m41_1 (a0 : Evt) : Option Bool :=
  bnd (m39 a0.kind 1 10) fun r7 =>
  br r7 (
    some (eqI a0.n 0)) (
    some false)
noncomputable def m41 (a0 : Evt) : Option Bool :=
  br (eqI a0.kind 5) (
    bnd (m39 a0.n 0 100) fun r4 =>
    some r4) (
    bnd (m41_1 a0) fun v11 =>
    some v11)
-- f60 spec.l12To
noncomputable def m60 (a0 : Session) (a1 : Int) : Option Session :=
  some (⟨a1, a0.hold, 0, 0, a0.ups⟩ : Session)
-- f49 spec.l12Tick
noncomputable def m49 (a0 : Session) : Option (Session × (List Int)) :=
  br (ltI a0.state 2) (
    some (a0, [])) (
    br (eqI (wsub .i64 a0.left 1) 0) (
      bnd (m60 (⟨a0.state, a0.hold, wsub .i64 a0.left 1, a0.quiet, a0.ups⟩ : Session) 0) fun r5 =>
      some (r5, [3])) (
      br (eqI a0.state 2) (
        some ((⟨a0.state, a0.hold, wsub .i64 a0.left 1, a0.quiet, a0.ups⟩ : Session), [])) (
        br (eqI (wsub .i64 a0.quiet 1) 0) (
          some ((⟨a0.state, a0.hold, wsub .i64 a0.left 1, wquo .i64 a0.hold 3, a0.ups⟩ : Session), [4])) (
          some ((⟨a0.state, a0.hold, wsub .i64 a0.left 1, wsub .i64 a0.quiet 1, a0.ups⟩ : Session), [])))))
-- f42 spec.l12Step
noncomputable def m42_1 (a0 : Session) (a1 : Evt) : Option Bool :=
  br (eqI a1.kind 1) (
    some (eqI a0.state 0)) (
    some false)
noncomputable def m42_2 (a0 : Session) (a1 : Evt) : Option Bool :=
  br (eqI a1.kind 3) (
    some (eqI a0.state 1)) (
    some false)
noncomputable def m42_3 (p24 : Bool) (a1 : Evt) : Option Bool :=
  br (eqI a1.kind 4) (
    some p24) (
    some false)
noncomputable def m42_4 (p33 : Bool) (a1 : Evt) : Option Bool :=
  br (eqI a1.kind 9) (
    some p33) (
    some false)
noncomputable def m42_5 (p42 : Bool) (a1 : Evt) : Option Bool :=
  br (eqI a1.kind 2) (
    some (!p42)) (
    some false)
noncomputable def m42_6 (a0 : Session) (a1 : Evt) : Option Bool :=
  br (eqI a1.kind 5) (
    br (eqI a0.state 2) (
      some (leI 3 a1.n)) (
      some false)) (
    some false)
noncomputable def m42_7 (p58 : Bool) (a0 : Session) (a1 : Evt) : Option Int :=
  br p58 (
    some a1.n) (
    some a0.hold)
noncomputable def m42_8 (a0 : Session) (a1 : Evt) : Option Bool :=
  br (eqI a1.kind 7) (
    some (leI 3 a0.state)) (
    some false)
noncomputable def m42_10 (a0 : Session) (a1 : Evt) : Option Bool :=
  br (eqI a1.kind 8) (
    some (eqI a0.state 4)) (
    some false)
noncomputable def m42_9 (v66 : Bool) (a0 : Session) (a1 : Evt) : Option Bool :=
  br v66 (
    some v66) (
    bnd (m42_10 a0 a1) fun v71 =>
    some v71)
noncomputable def m42_11 (a0 : Session) : Option Bool :=
  br (eqI a0.state 3) (
    some (ltI a0.ups 1000)) (
    some false)
noncomputable def m42_12 (v79 : Bool) (a0 : Session) : Option Int :=
  br v79 (
    some (wadd .i64 a0.ups 1)) (
    some a0.ups)
noncomputable def m42 (a0 : Session) (a1 : Evt) : Option (Session × (List Int)) :=
  br (eqI a1.kind 10) (
    bnd (m49 a0) fun p => sel2 p fun r4 r5 =>
    some (r4, r5)) (
    bnd (m42_1 a0 a1) fun v10 =>
    br v10 (
      bnd (m60 a0 1) fun r14 =>
      some (r14, [])) (
      bnd (m42_2 a0 a1) fun v19 =>
      br v19 (
        bnd (m60 a0 2) fun r23 =>
        some ((⟨r23.state, r23.hold, 90, r23.quiet, r23.ups⟩ : Session), [1])) (
        bnd (m42_3 (leI 2 a0.state) a1) fun v28 =>
        br v28 (
          bnd (m60 a0 1) fun r32 =>
          some (r32, [])) (
          bnd (m42_4 (leI 2 a0.state) a1) fun v37 =>
          br v37 (
            bnd (m60 a0 0) fun r41 =>
            some (r41, [])) (
            bnd (m42_5 (leI 2 a0.state) a1) fun v46 =>
            br v46 (
              bnd (m60 a0 0) fun r50 =>
              some (r50, [])) (
              br (leI 2 a0.state) (
                bnd (m42_6 a0 a1) fun v56 =>
                br v56 (
                  bnd (m42_7 (ltI a1.n a0.hold) a0 a1) fun v62 =>
                  some ((⟨3, v62, v62, wquo .i64 v62 3, a0.ups⟩ : Session), [4])) (
                  bnd (m42_8 a0 a1) fun v66 =>
                  bnd (m42_9 v66 a0 a1) fun v74 =>
                  br v74 (
                    bnd (m42_11 a0) fun v79 =>
                    bnd (m42_12 v79 a0) fun v83 =>
                    some ((⟨4, a0.hold, a0.hold, a0.quiet, v83⟩ : Session), [])) (
                    bnd (m60 a0 0) fun r86 =>
                    some (r86, [3])))) (
                some (a0, []))))))))
-- f26 spec.PlayEvents
noncomputable def m26_1 (a1 : (List Evt)) (r4 : Bool) : Option Bool :=
  br r4 (
    some (ltI 100 (↑a1.length : Int))) (
    some true)
noncomputable def m26_2b (a1 : (List Evt)) (p10 : Int) (p : (Int × Int × Int × Int × Int × Int × List Int)) : Option (Ctl (Int × Int × Int × Int × Int × Int × List Int) ((Int × Int × Int × Int × Int × List Int) ⊕ Unit)) :=
  sel7 p fun s26 s27 s28 s29 s30 s31 s32 =>
  br (ltI s26 p10) (
    bnd (idx a1 s26) fun x34 =>
    bnd (m41 x34) fun r41 =>
    br r41 (
      bnd (m42 (⟨s27, s28, s29, s30, s31⟩ : Session) x34) fun p => sel2 p fun r45 r46 =>
      ck (s32.length + r46.length ≤ 4294967296) <|
      some (.nxt (wadd .i64 s26 1, r45.state, r45.hold, r45.left, r45.quiet, r45.ups, s32 ++ r46))) (
      some (.out (.inr ())))) (
    some (.out (.inl (s27, s28, s29, s30, s31, s32))))
noncomputable def m26 (a0 : Int) (a1 : (List Evt)) : Option (Session × (List Int) × Bool) :=
  bnd (m11 a0) fun p => sel2 p fun r3 r4 =>
  bnd (m26_1 a1 r4) fun v8 =>
  br v8 (
    some ((⟨0, 0, 0, 0, 0⟩ : Session), [], false)) (
    bnd (loopP (m26_2b a1 (↑a1.length : Int)) (0, r3.state, r3.hold, r3.left, r3.quiet, r3.ups, [])) fun o => selS o (fun p => sel6 p fun v50 v51 v52 v53 v54 v55 =>
      some ((⟨v50, v51, v52, v53, v54⟩ : Session), v55, true)) (fun _ =>
      some ((⟨0, 0, 0, 0, 0⟩ : Session), [], false)))
-- f40 impl.within
noncomputable def m40_1 (a0 : Int) (a1 : Int) (a2 : Int) : Option Bool :=
  br (leI a1 a0) (
    some (leI a0 a2)) (
    some false)
noncomputable def m40 (a0 : Int) (a1 : Int) (a2 : Int) : Option Bool :=
  bnd (m40_1 a0 a1 a2) fun v4 =>
  some v4
-- f12 impl.NewSession
noncomputable def m12 (a0 : Int) : Option (Session × Bool) :=
  bnd (m40 a0 3 90) fun r3 =>
  br r3 (
    some ((⟨0, a0, 0, 0, 0⟩ : Session), true)) (
    some ((⟨0, 0, 0, 0, 0⟩ : Session), false))
-- f63 slices.IndexFunc[[]impl.Event,impl.Event]
noncomputable def m63_1b (a0 : (List Evt)) (p1 : Int) (a1 : (Evt → Option Bool)) (s12 : Int) : Option (Ctl Int (Unit ⊕ Int)) :=
  br (ltI s12 p1) (
    bnd (idx a0 s12) fun x14 =>
    bnd (a1 x14) fun r19 =>
    br r19 (
      some (.out (.inr s12))) (
      some (.nxt (wadd .i64 s12 1)))) (
    some (.out (.inl ())))
noncomputable def m63 (a0 : (List Evt)) (a1 : (Evt → Option Bool)) : Option Int :=
  bnd (loopP (m63_1b a0 (↑a0.length : Int) a1) 0) fun o => selS o (fun _ =>
    some (-1)) (fun v25 =>
    some v25)
-- f45 slices.ContainsFunc[[]impl.Event,impl.Event]
noncomputable def m45 (a0 : (List Evt)) (a1 : (Evt → Option Bool)) : Option Bool :=
  bnd (m63 a0 a1) fun r3 =>
  some (leI 0 r3)
-- f43 impl.isEvent
noncomputable def m43_1 (a0 : Evt) : Option Bool :=
  bnd (m40 a0.kind 1 10) fun r3 =>
  br r3 (
    br (eqI a0.n 0) (
      some true) (
      br (eqI a0.kind 5) (
        bnd (m40 a0.n 0 100) fun r9 =>
        some r9) (
        some false))) (
    some false)
noncomputable def m43 (a0 : Evt) : Option Bool :=
  bnd (m43_1 a0) fun v12 =>
  some v12
-- f46 impl.PlayEvents$1
noncomputable def m46 (a0 : Evt) : Option Bool :=
  bnd (m43 a0) fun r3 =>
  some (!r3)
-- f61 (impl.Session).to
noncomputable def m61 (a0 : Session) (a1 : Int) : Option Session :=
  some (⟨a1, a0.hold, 0, 0, a0.ups⟩ : Session)
-- f62 (impl.Session).tick
noncomputable def m62 (a0 : Session) : Option (Session × (List Int)) :=
  br (eqI (wsub .i64 a0.left 1) 0) (
    bnd (m61 (⟨a0.state, a0.hold, wsub .i64 a0.left 1, a0.quiet, a0.ups⟩ : Session) 0) fun r4 =>
    some (r4, [3])) (
    br (eqI a0.state 2) (
      some ((⟨a0.state, a0.hold, wsub .i64 a0.left 1, a0.quiet, a0.ups⟩ : Session), [])) (
      br (eqI (wsub .i64 a0.quiet 1) 0) (
        some ((⟨a0.state, a0.hold, wsub .i64 a0.left 1, wquo .i64 a0.hold 3, a0.ups⟩ : Session), [4])) (
        some ((⟨a0.state, a0.hold, wsub .i64 a0.left 1, wsub .i64 a0.quiet 1, a0.ups⟩ : Session), []))))
-- f44 (impl.Session).step
noncomputable def m44_1 (a0 : Session) (a1 : Evt) : Option Bool :=
  br (eqI a1.kind 1) (
    some (eqI a0.state 0)) (
    some false)
noncomputable def m44_2 (p10 : Bool) (a1 : Evt) : Option Bool :=
  br (eqI a1.kind 2) (
    some (!p10)) (
    some false)
noncomputable def m44_3 (a0 : Session) (a1 : Evt) : Option Bool :=
  br (eqI a1.kind 3) (
    some (eqI a0.state 1)) (
    some false)
noncomputable def m44_4 (a0 : Session) (a1 : Evt) : Option Bool :=
  br (eqI a1.kind 5) (
    br (eqI a0.state 2) (
      some (ltI 2 a1.n)) (
      some false)) (
    some false)
noncomputable def m44_5 (a0 : Session) (a1 : Evt) : Option Bool :=
  br (eqI a1.kind 7) (
    some (eqI a0.state 3)) (
    some false)
noncomputable def m44_6 (a0 : Session) (a1 : Evt) : Option Bool :=
  br (eqI a1.kind 7) (
    some (eqI a0.state 4)) (
    br (eqI a1.kind 8) (
      some (eqI a0.state 4)) (
      some false))
noncomputable def m44 (a0 : Session) (a1 : Evt) : Option (Session × (List Int)) :=
  bnd (m44_1 a0 a1) fun v5 =>
  br v5 (
    bnd (m61 a0 1) fun r9 =>
    some (r9, [])) (
    bnd (m44_2 (leI 2 a0.state) a1) fun v14 =>
    br v14 (
      bnd (m61 a0 0) fun r18 =>
      some (r18, [])) (
      bnd (m44_3 a0 a1) fun v23 =>
      br v23 (
        bnd (m61 a0 2) fun r27 =>
        some ((⟨r27.state, r27.hold, 90, r27.quiet, r27.ups⟩ : Session), [1])) (
        br (leI 2 a0.state) (
          br (eqI a1.kind 4) (
            bnd (m61 a0 1) fun r32 =>
            some (r32, [])) (
            bnd (m44_4 a0 a1) fun v37 =>
            br v37 (
              bnd (m61 a0 3) fun r41 =>
              some ((⟨r41.state, wmin a0.hold a1.n, wmin a0.hold a1.n, wquo .i64 (wmin a0.hold a1.n) 3, r41.ups⟩ : Session), [4])) (
              bnd (m44_5 a0 a1) fun v45 =>
              br v45 (
                some ((⟨4, a0.hold, a0.hold, a0.quiet, wmin 1000 (wadd .i64 a0.ups 1)⟩ : Session), [])) (
                bnd (m44_6 a0 a1) fun v51 =>
                br v51 (
                  some ((⟨a0.state, a0.hold, a0.hold, a0.quiet, a0.ups⟩ : Session), [])) (
                  br (eqI a1.kind 9) (
                    bnd (m61 a0 0) fun r56 =>
                    some (r56, [])) (
                    br (eqI a1.kind 10) (
                      bnd (m62 a0) fun p => sel2 p fun r60 r61 =>
                      some (r60, r61)) (
                      bnd (m61 a0 0) fun r64 =>
                      some (r64, [3])))))))) (
          some (a0, [])))))
-- f28 impl.PlayEvents
noncomputable def m28_1 (a1 : (List Evt)) (r4 : Bool) : Option Bool :=
  br r4 (
    br (ltI 100 (↑a1.length : Int)) (
      some true) (
      bnd (m45 a1 (fun y0 => m46 y0)) fun r9 =>
      some r9)) (
    some true)
noncomputable def m28_2b (a1 : (List Evt)) (p14 : Int) (p : (Int × Int × Int × Int × Int × Int × List Int)) : Option (Ctl (Int × Int × Int × Int × Int × Int × List Int) (Int × Int × Int × Int × Int × List Int)) :=
  sel7 p fun s26 s27 s28 s29 s30 s31 s32 =>
  br (ltI s26 p14) (
    bnd (idx a1 s26) fun x34 =>
    bnd (m44 (⟨s27, s28, s29, s30, s31⟩ : Session) x34) fun p => sel2 p fun r41 r42 =>
    ck (s32.length + r42.length ≤ 4294967296) <|
    some (.nxt (wadd .i64 s26 1, r41.state, r41.hold, r41.left, r41.quiet, r41.ups, s32 ++ r42))) (
    some (.out (s27, s28, s29, s30, s31, s32)))
noncomputable def m28 (a0 : Int) (a1 : (List Evt)) : Option (Session × (List Int) × Bool) :=
  bnd (m12 a0) fun p => sel2 p fun r3 r4 =>
  bnd (m28_1 a1 r4) fun v12 =>
  br v12 (
    some ((⟨0, 0, 0, 0, 0⟩ : Session), [], false)) (
    bnd (loopP (m28_2b a1 (↑a1.length : Int)) (0, r3.state, r3.hold, r3.left, r3.quiet, r3.ups, [])) fun p => sel6 p fun v46 v47 v48 v49 v50 v51 =>
    some ((⟨v46, v47, v48, v49, v50⟩ : Session), v51, true))
-- f13 laws.eqSession
noncomputable def m13 (a0 : Session) (a1 : Session) : Option Bool :=
  br (eqI a0.state a1.state) (
    br (eqI a0.hold a1.hold) (
      br (eqI a0.left a1.left) (
        br (eqI a0.quiet a1.quiet) (
          br (eqI a0.ups a1.ups) (
            some true) (
            some false)) (
          some false)) (
        some false)) (
      some false)) (
    some false)
-- f22 laws.eqIntS
noncomputable def m22_1b (a0 : (List Int)) (a1 : (List Int)) (s14 : Int) : Option (Ctl Int (Unit ⊕ Unit)) :=
  br (ltI s14 (↑a0.length : Int)) (
    bnd (idx a0 s14) fun x16 =>
    bnd (idx a1 s14) fun x21 =>
    br (eqI x16 x21) (
      some (.nxt (wadd .i64 s14 1))) (
      some (.out (.inr ())))) (
    some (.out (.inl ())))
noncomputable def m22 (a0 : (List Int)) (a1 : (List Int)) : Option Bool :=
  br (eqI (↑a0.length : Int) (↑a1.length : Int)) (
    bnd (loopP (m22_1b a0 a1) 0) fun o => selS o (fun _ =>
      some true) (fun _ =>
      some false)) (
    some false)
-- f47 laws.eqEvent
noncomputable def m47 (a0 : Evt) (a1 : Evt) : Option Bool :=
  br (eqI a0.kind a1.kind) (
    br (eqI a0.n a1.n) (
      some true) (
      some false)) (
    some false)
-- f29 laws.eqEventS
noncomputable def m29_1b (a0 : (List Evt)) (a1 : (List Evt)) (s17 : Int) : Option (Ctl Int (Unit ⊕ Unit)) :=
  br (ltI s17 (↑a0.length : Int)) (
    bnd (idx a0 s17) fun x19 =>
    bnd (idx a1 s17) fun x24 =>
    bnd (m47 x19 x24) fun r31 =>
    br r31 (
      some (.nxt (wadd .i64 s17 1))) (
      some (.out (.inr ())))) (
    some (.out (.inl ())))
noncomputable def m29 (a0 : (List Evt)) (a1 : (List Evt)) : Option Bool :=
  br (eqI (↑a0.length : Int) (↑a1.length : Int)) (
    bnd (loopP (m29_1b a0 a1) 0) fun o => selS o (fun _ =>
      some true) (fun _ =>
      some false)) (
    some false)
-- f30 laws.markEventS
noncomputable def m30_1b (p : (Int × Int × List Evt)) : Option (Ctl (Int × Int × List Evt) (Int × List Evt)) :=
  sel3 p fun s7 s8 s9 =>
  br (ltI s8 (↑s9.length : Int)) (
    bnd (idx s9 s8) fun x11 =>
    some (.nxt (wadd .i64 (wadd .i64 s7 1) 1, wadd .i64 s8 1, (s9.set s8.toNat (⟨s7, x11.n⟩ : Evt)).set s8.toNat (⟨(⟨s7, x11.n⟩ : Evt).kind, wadd .i64 s7 1⟩ : Evt)))) (
    some (.out (s7, s9)))
noncomputable def m30 (a0 : (List Evt)) (a1 : Int) : Option (Int × List Evt) :=
  bnd (loopP (m30_1b) (a1, 0, a0)) fun p => sel2 p fun v18 v19 =>
  some (v18, v19)
-- f23 laws.markIntS
noncomputable def m23_1b (p : (Int × Int × List Int)) : Option (Ctl (Int × Int × List Int) (Int × List Int)) :=
  sel3 p fun s7 s8 s9 =>
  br (ltI s8 (↑s9.length : Int)) (
    bnd (idx s9 s8) fun x11 =>
    some (.nxt (wadd .i64 s7 1, wadd .i64 s8 1, s9.set s8.toNat s7))) (
    some (.out (s7, s9)))
noncomputable def m23 (a0 : (List Int)) (a1 : Int) : Option (Int × List Int) :=
  bnd (loopP (m23_1b) (a1, 0, a0)) fun p => sel2 p fun v18 v19 =>
  some (v18, v19)
-- f24 laws.heldIntS
noncomputable def m24_1b (a0 : (List Int)) (p : (Int × Int)) : Option (Ctl (Int × Int) (Int ⊕ Unit)) :=
  sel2 p fun s8 s9 =>
  br (ltI s9 (↑a0.length : Int)) (
    bnd (idx a0 s9) fun x11 =>
    br (eqI x11 s8) (
      some (.nxt (wadd .i64 s8 1, wadd .i64 s9 1))) (
      some (.out (.inr ())))) (
    some (.out (.inl s8)))
noncomputable def m24 (a0 : (List Int)) (a1 : Int) : Option Int :=
  bnd (loopP (m24_1b a0) (a1, 0)) fun o => selS o (fun v19 =>
    some v19) (fun _ =>
    some (-1))
-- f7 laws.FnExactPlayEvents
noncomputable def m7_1 (r12 : Bool) (r19 : Bool) (r10 : Session) (r11 : (List Int)) (r17 : Session) (r18 : (List Int)) : Option Bool :=
  bnd (m13 r17 r10) fun r22 =>
  br r22 (
    bnd (m22 r18 r11) fun r26 =>
    br r26 (
      some (!eqB r19 r12)) (
      some true)) (
    some true)
noncomputable def m7_2 (r12 : Bool) (r19 : Bool) (r40 : Int) (r10 : Session) (r11 : (List Int)) (r17 : Session) (r18 : (List Int)) : Option Bool :=
  br (ltI r40 0) (
    some true) (
    bnd (m13 r17 r10) fun r46 =>
    br r46 (
      bnd (m22 r18 r11) fun r50 =>
      br r50 (
        some (!eqB r19 r12)) (
        some true)) (
      some true))
noncomputable def m7_3 (r12 : Bool) (r19 : Bool) (r10 : Session) (r11 : (List Int)) (r17 : Session) (r18 : (List Int)) : Option Bool :=
  bnd (m13 r17 r10) fun r72 =>
  br r72 (
    bnd (m22 r18 r11) fun r76 =>
    br r76 (
      some (!eqB r19 r12)) (
      some true)) (
    some true)
noncomputable def m7 (a0 : Int) (a1 : (List Evt)) : Option Bool :=
  bnd (m25 a1 1048576) fun r3 =>
  br (ltI r3 0) (
    some true) (
    bnd (m27 a1) fun r7 =>
    bnd (m26 a0 r7) fun p => sel3 p fun r10 r11 r12 =>
    bnd (m28 a0 r7) fun p => sel3 p fun r17 r18 r19 =>
    bnd (m7_1 r12 r19 r10 r11 r17 r18) fun v30 =>
    br v30 (
      some false) (
      bnd (m29 r7 r7) fun r36 =>
      br r36 (
        bnd (m30 r7 1) fun p => sel2 p fun r40 r41 =>
        ck (r41.length = r7.length) <|
        bnd (m7_2 r12 r19 r40 r10 r11 r17 r18) fun v54 =>
        br v54 (
          some false) (
          bnd (m23 r18 1) fun p => sel2 p fun r58 r59 =>
          ck (r59.length = r18.length) <|
          bnd (m24 r59 1) fun r63 =>
          br (ltI r63 0) (
            some false) (
            br (eqI r63 r58) (
              bnd (m7_3 r12 r19 r10 r11 r17 r18) fun v80 =>
              br v80 (
                some false) (
                some true)) (
              some false)))) (
        some false)))
end Go.Pi.Ytcihklkihglmjaa.PlayEvents
