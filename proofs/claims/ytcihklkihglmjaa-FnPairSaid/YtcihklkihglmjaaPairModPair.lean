/- What functions of the program answer, and that the law answers true at every input; no condition -/
import Derived.Test.YtcihklkihglmjaaPiC
set_option linter.all false
/- Functions of the program, in plain Lean. -/
namespace Go.Pi.Ytcihklkihglmjaa.Pair
open Go Go.Pi
set_option maxRecDepth 100000
set_option linter.all false
def wfIntu8 (x : Int) : Prop := 0 ≤ x ∧ x ≤ 255
def wfLIntu8 (x : (List Int)) : Prop := x.length ≤ 9223372036854775807 ∧ ∀ y ∈ x, wfIntu8 y
def wfBool (x : Bool) : Prop := True
def wfInt (x : Int) : Prop := -9223372036854775808 ≤ x ∧ x ≤ 9223372036854775807
def wfLInt (x : (List Int)) : Prop := x.length ≤ 9223372036854775807 ∧ ∀ y ∈ x, wfInt y
def wfIntu64 (x : Int) : Prop := 0 ≤ x ∧ x ≤ 18446744073709551615
structure l1Cur where
  code : (List Int)
  at_ : Int
  seed : Int
  deriving Inhabited, DecidableEq
def wfl1Cur (x : l1Cur) : Prop := wfLIntu8 x.code ∧ wfInt x.at_ ∧ wfIntu64 x.seed
structure Session where
  state : Int
  hold : Int
  left : Int
  quiet : Int
  ups : Int
  deriving Inhabited, DecidableEq
def wfSession (x : Session) : Prop := wfInt x.state ∧ wfInt x.hold ∧ wfInt x.left ∧ wfInt x.quiet ∧ wfInt x.ups
structure side where
  session : Session
  began : Int
  heard : (List Int)
  deriving Inhabited, DecidableEq
def wfside (x : side) : Prop := wfSession x.session ∧ wfInt x.began ∧ wfLInt x.heard
structure Evt where
  kind : Int
  n : Int
  deriving Inhabited, DecidableEq
def wfEvt (x : Evt) : Prop := wfInt x.kind ∧ wfInt x.n
structure l12Side where
  s : Session
  in_ : (List Int)
  asks : Int
  deriving Inhabited, DecidableEq
def wfl12Side (x : l12Side) : Prop := wfSession x.s ∧ wfLInt x.in_ ∧ wfInt x.asks
-- f65 (*spec.l1Cur).next
noncomputable def m65_1 (p1 : Bool) (a0 : l1Cur) : Option Int :=
  br p1 (
    bnd (idx a0.code a0.at_) fun x3 =>
    some (wcv .i64 x3)) (
    some 0)
noncomputable def m65 (a0 : l1Cur) : Option (Int × Int × Int) :=
  bnd (m65_1 (ltI a0.at_ (↑a0.code.length : Int)) a0) fun v10 =>
  br (leI (wadd .i64 a0.at_ 1) (↑a0.code.length : Int)) (
    some (v10, wadd .i64 a0.at_ 1, wadd .u64 (wadd .u64 (wmul .u64 a0.seed 6364136223846793005) (wcv .u64 v10)) 1442695040888963407)) (
    some (wcv .i64 (intBits .and .u64 (wshr .u64 (wadd .u64 (wadd .u64 (wmul .u64 a0.seed 6364136223846793005) (wcv .u64 v10)) 1442695040888963407) 40) 255), wadd .i64 a0.at_ 1, wadd .u64 (wadd .u64 (wmul .u64 a0.seed 6364136223846793005) (wcv .u64 v10)) 1442695040888963407))
-- f55 (*spec.l1Cur).pick
noncomputable def m55_1 (r4 : Int) (p7 : Bool) (a0 : l1Cur) (r5 : Int) (r6 : Int) : Option (Int × Int × Int) :=
  br p7 (
    bnd (m65 (⟨a0.code, r5, r6⟩ : l1Cur)) fun p => sel3 p fun r11 r12 r13 =>
    some (wadd .i64 (wmul .i64 r4 256) r11, r12, r13)) (
    some (r4, r5, r6))
noncomputable def m55 (a0 : l1Cur) (a1 : Int) : Option (Int × Int × Int) :=
  br (leI a1 1) (
    some (0, a0.at_, a0.seed)) (
    bnd (m65 a0) fun p => sel3 p fun r4 r5 r6 =>
    bnd (m55_1 r4 (ltI 200 a1) a0 r5 r6) fun p => sel3 p fun v16 v17 v18 =>
    ck (¬ a1 = 0) <|
    some (wrem .i64 v16 a1, v17, v18))
-- f56 (*spec.l1Cur).one
noncomputable def m56 (a0 : l1Cur) (a1 : Int) : Option (Bool × Int × Int) :=
  bnd (m55 a0 a1) fun p => sel3 p fun r3 r4 r5 =>
  some (eqI r3 0, r4, r5)
-- f57 (*spec.l1Cur).among
noncomputable def m57 (a0 : l1Cur) (a1 : (List Int)) : Option (Int × Int × Int) :=
  bnd (m55 a0 (↑a1.length : Int)) fun p => sel3 p fun r3 r4 r5 =>
  bnd (idx a1 r3) fun x6 =>
  some (x6, r4, r5)
-- f34 spec.DrawPlayPair
noncomputable def m34_1 (r3 : Int) (r8 : Bool) (a0 : (List Int)) (r9 : Int) (r10 : Int) : Option (Int × Int × Int) :=
  br r8 (
    bnd (m55 (⟨a0, r9, r10⟩ : l1Cur) 2) fun p => sel3 p fun r14 r15 r16 =>
    some (wadd .i64 100 r14, r15, r16)) (
    some (r3, r9, r10))
noncomputable def m34_2b (a0 : (List Int)) (p : (Int × Int × Int × List Int)) : Option (Ctl (Int × Int × Int × List Int) (Int × Int × List Int)) :=
  sel4 p fun s28 s29 s30 s31 =>
  br (ltI 0 s28) (
    bnd (m57 (⟨a0, s29, s30⟩ : l1Cur) [0, 1, 1, 2, 2]) fun p => sel3 p fun r35 r36 r37 =>
    ck (s31.length + 1 ≤ 4294967296) <|
    some (.nxt (wsub .i64 s28 1, r36, r37, s31 ++ [r35]))) (
    some (.out (s29, s30, s31)))
noncomputable def m34_3 (a0 : (List Int)) (v41 : Int) (v42 : Int) (v43 : List Int) : Option (Bool × Int × Int) :=
  br (ltI 0 (↑v43.length : Int)) (
    bnd (m56 (⟨a0, v41, v42⟩ : l1Cur) 30) fun p => sel3 p fun r47 r48 r49 =>
    some (r47, r48, r49)) (
    some (false, v41, v42))
noncomputable def m34_4 (v52 : Bool) (v43 : List Int) : Option (List Int) :=
  br v52 (
    bnd (idx v43 0) fun x56 =>
    some (v43.set 0 3)) (
    some v43)
noncomputable def m34 (a0 : (List Int)) : Option (Int × Int × (List Int)) :=
  bnd (m55 (⟨a0, 0, 0⟩ : l1Cur) 30) fun p => sel3 p fun r3 r4 r5 =>
  bnd (m56 (⟨a0, r4, r5⟩ : l1Cur) 20) fun p => sel3 p fun r8 r9 r10 =>
  bnd (m34_1 r3 r8 a0 r9 r10) fun p => sel3 p fun v19 v20 v21 =>
  bnd (loopP (m34_2b a0) (v19, v20, v21, [])) fun p => sel3 p fun v41 v42 v43 =>
  bnd (m34_3 a0 v41 v42 v43) fun p => sel3 p fun v52 v53 v54 =>
  bnd (m34_4 v52 v43) fun v63 =>
  bnd (m57 (⟨a0, v53, v54⟩ : l1Cur) [3, 9, 30, 90, 2]) fun p => sel3 p fun r66 r67 r68 =>
  bnd (m57 (⟨a0, r67, r68⟩ : l1Cur) [3, 9, 30, 90]) fun p => sel3 p fun r71 r72 r73 =>
  some (r66, r71, v63)
-- f40 impl.within
noncomputable def m40_1 (a0 : Int) (a1 : Int) (a2 : Int) : Option Bool :=
  br (leI a1 a0) (
    some (leI a0 a2)) (
    some false)
noncomputable def m40 (a0 : Int) (a1 : Int) (a2 : Int) : Option Bool :=
  bnd (m40_1 a0 a1 a2) fun v4 =>
  some v4
-- f12 impl.NewSession
noncomputable def m12 (a0 : Int) : Option (Session × Bool) :=
  bnd (m40 a0 3 90) fun r3 =>
  br r3 (
    some ((⟨0, a0, 0, 0, 0⟩ : Session), true)) (
    some ((⟨0, 0, 0, 0, 0⟩ : Session), false))
-- f64 slices.IndexFunc[[]int,int]
noncomputable def m64_1b (a0 : (List Int)) (p1 : Int) (a1 : (Int → Option Bool)) (s12 : Int) : Option (Ctl Int (Unit ⊕ Int)) :=
  br (ltI s12 p1) (
    bnd (idx a0 s12) fun x14 =>
    bnd (a1 x14) fun r19 =>
    br r19 (
      some (.out (.inr s12))) (
      some (.nxt (wadd .i64 s12 1)))) (
    some (.out (.inl ())))
noncomputable def m64 (a0 : (List Int)) (a1 : (Int → Option Bool)) : Option Int :=
  bnd (loopP (m64_1b a0 (↑a0.length : Int) a1) 0) fun o => selS o (fun _ =>
    some (-1)) (fun v25 =>
    some v25)
-- f51 slices.ContainsFunc[[]int,int]
noncomputable def m51 (a0 : (List Int)) (a1 : (Int → Option Bool)) : Option Bool :=
  bnd (m64 a0 a1) fun r3 =>
  some (leI 0 r3)
-- f52 impl.PlayPair$1
noncomputable def m52 (a0 : Int) : Option Bool :=
  bnd (m40 a0 0 2) fun r3 =>
  some (!r3)
-- f61 (impl.Session).to
noncomputable def m61 (a0 : Session) (a1 : Int) : Option Session :=
  some (⟨a1, a0.hold, 0, 0, a0.ups⟩ : Session)
-- f62 (impl.Session).tick
noncomputable def m62 (a0 : Session) : Option (Session × (List Int)) :=
  br (eqI (wsub .i64 a0.left 1) 0) (
    bnd (m61 (⟨a0.state, a0.hold, wsub .i64 a0.left 1, a0.quiet, a0.ups⟩ : Session) 0) fun r4 =>
    some (r4, [3])) (
    br (eqI a0.state 2) (
      some ((⟨a0.state, a0.hold, wsub .i64 a0.left 1, a0.quiet, a0.ups⟩ : Session), [])) (
      br (eqI (wsub .i64 a0.quiet 1) 0) (
        some ((⟨a0.state, a0.hold, wsub .i64 a0.left 1, wquo .i64 a0.hold 3, a0.ups⟩ : Session), [4])) (
        some ((⟨a0.state, a0.hold, wsub .i64 a0.left 1, wsub .i64 a0.quiet 1, a0.ups⟩ : Session), []))))
-- f44 (impl.Session).step
noncomputable def m44_1 (a0 : Session) (a1 : Evt) : Option Bool :=
  br (eqI a1.kind 1) (
    some (eqI a0.state 0)) (
    some false)
noncomputable def m44_2 (p11 : Bool) (a1 : Evt) : Option Bool :=
  br (eqI a1.kind 2) (
    some (!p11)) (
    some false)
noncomputable def m44_3 (a0 : Session) (a1 : Evt) : Option Bool :=
  br (eqI a1.kind 3) (
    some (eqI a0.state 1)) (
    some false)
noncomputable def m44_4 (a0 : Session) (a1 : Evt) : Option Bool :=
  br (eqI a1.kind 5) (
    br (eqI a0.state 2) (
      some (ltI 2 a1.n)) (
      some false)) (
    some false)
noncomputable def m44_5 (a0 : Session) (a1 : Evt) : Option Bool :=
  br (eqI a1.kind 7) (
    some (eqI a0.state 3)) (
    some false)
noncomputable def m44_6 (a0 : Session) (a1 : Evt) : Option Bool :=
  br (eqI a1.kind 7) (
    some (eqI a0.state 4)) (
    br (eqI a1.kind 8) (
      some (eqI a0.state 4)) (
      some false))
noncomputable def m44 (a0 : Session) (a1 : Evt) : Option (Session × (List Int)) :=
  bnd (m44_1 a0 a1) fun v6 =>
  br v6 (
    bnd (m61 a0 1) fun r10 =>
    some (r10, [])) (
    bnd (m44_2 (leI 2 a0.state) a1) fun v16 =>
    br v16 (
      bnd (m61 a0 0) fun r20 =>
      some (r20, [])) (
      bnd (m44_3 a0 a1) fun v26 =>
      br v26 (
        bnd (m61 a0 2) fun r30 =>
        some ((⟨r30.state, r30.hold, 90, r30.quiet, r30.ups⟩ : Session), [1])) (
        br (leI 2 a0.state) (
          br (eqI a1.kind 4) (
            bnd (m61 a0 1) fun r35 =>
            some (r35, [])) (
            bnd (m44_4 a0 a1) fun v41 =>
            br v41 (
              bnd (m61 a0 3) fun r45 =>
              some ((⟨r45.state, wmin a0.hold a1.n, wmin a0.hold a1.n, wquo .i64 (wmin a0.hold a1.n) 3, r45.ups⟩ : Session), [4])) (
              bnd (m44_5 a0 a1) fun v50 =>
              br v50 (
                some ((⟨4, a0.hold, a0.hold, a0.quiet, wmin 1000 (wadd .i64 a0.ups 1)⟩ : Session), [])) (
                bnd (m44_6 a0 a1) fun v57 =>
                br v57 (
                  some ((⟨a0.state, a0.hold, a0.hold, a0.quiet, a0.ups⟩ : Session), [])) (
                  br (eqI a1.kind 9) (
                    bnd (m61 a0 0) fun r62 =>
                    some (r62, [])) (
                    br (eqI a1.kind 10) (
                      bnd (m62 a0) fun p => sel2 p fun r66 r67 =>
                      some (r66, r67)) (
                      bnd (m61 a0 0) fun r70 =>
                      some (r70, [3])))))))) (
          some (a0, [])))))
-- f53 (*impl.side).do
noncomputable def m53 (a0 : side) (a1 : side) (a2 : Evt) : Option (Session × List Int) :=
  bnd (m44 a0.session a2) fun p => sel2 p fun r3 r4 =>
  ck (a1.heard.length + r4.length ≤ 4294967296) <|
  some (r3, a1.heard ++ r4)
-- f54 (*impl.side).hear
noncomputable def m54_4 (p14 : Bool) (p8 : Evt) : Option Evt :=
  br p14 (
    some (⟨7, 0⟩ : Evt)) (
    some p8)
noncomputable def m54_3 (x2 : Int) (p12 : Bool) (p8 : Evt) : Option Evt :=
  br p12 (
    some (⟨9, 0⟩ : Evt)) (
    bnd (m54_4 (eqI x2 4) p8) fun v18 =>
    some v18)
noncomputable def m54_2 (x2 : Int) (p10 : Bool) (p8 : Evt) : Option Evt :=
  br p10 (
    some (⟨8, 0⟩ : Evt)) (
    bnd (m54_3 x2 (eqI x2 3) p8) fun v21 =>
    some v21)
noncomputable def m54_1 (x2 : Int) (p7 : Bool) (a1 : side) (p8 : Evt) : Option Evt :=
  br p7 (
    some (⟨5, a1.began⟩ : Evt)) (
    bnd (m54_2 x2 (eqI x2 2) p8) fun v24 =>
    some v24)
noncomputable def m54 (a0 : side) (a1 : side) : Option (Session × List Int × List Int) :=
  br (eqI (↑a0.heard.length : Int) 0) (
    some (a0.session, a0.heard, a1.heard)) (
    bnd (idx a0.heard 0) fun x2 =>
    bnd (m54_1 x2 (eqI x2 1) a1 (⟨0, 0⟩ : Evt)) fun v27 =>
    ck (0 ≤ 1 ∧ 1 ≤ (↑a0.heard.length : Int)) <|
    bnd (m53 (⟨a0.session, a0.began, (a0.heard.drop 1).take (a0.heard.length - 1)⟩ : side) a1 v27) fun p => sel2 p fun r32 r33 =>
    some (r32, ((a0.heard.drop 1).take (a0.heard.length - 1)), r33))
-- f33 impl.PlayPair
noncomputable def m33_1 (a2 : (List Int)) (r4 : Bool) (r8 : Bool) : Option Bool :=
  br r4 (
    br r8 (
      br (ltI 100 (↑a2.length : Int)) (
        some true) (
        bnd (m51 a2 (fun y0 => m52 y0)) fun r16 =>
        some r16)) (
      some true)) (
    some true)
noncomputable def m33_2b (a0 : Int) (a1 : Int) (p23 : List Int) (p : (Int × Session × List Int × Session × List Int)) : Option (Ctl (Int × Session × List Int × Session × List Int) (Session × List Int × Session × List Int)) :=
  sel5 p fun s38 s39 s40 s41 s42 =>
  br (ltI s38 2) (
    bnd (idx p23 s38) fun x44 =>
    bnd (m53 (⟨s39, a0, s40⟩ : side) (⟨s41, a1, s42⟩ : side) (⟨x44, 0⟩ : Evt)) fun p => sel2 p fun r51 r52 =>
    bnd (m53 (⟨s41, a1, r52⟩ : side) (⟨r51, a0, s40⟩ : side) (⟨x44, 0⟩ : Evt)) fun p => sel2 p fun r55 r56 =>
    some (.nxt (wadd .i64 s38 1, r51, r56, r55, r52))) (
    some (.out (s39, s40, s41, s42)))
noncomputable def m33_9 (p141 : Bool) (s114 : Session) (a0 : Int) (s115 : List Int) (s116 : Session) (a1 : Int) (s117 : List Int) : Option (List Int × Session × List Int) :=
  br p141 (
    bnd (m54 (⟨s116, a1, s117⟩ : side) (⟨s114, a0, s115⟩ : side)) fun p => sel3 p fun r145 r146 r147 =>
    some (r147, r145, r146)) (
    some (s115, s116, s117))
noncomputable def m33_8 (x119 : Int) (p134 : Bool) (s114 : Session) (a0 : Int) (s115 : List Int) (s116 : Session) (a1 : Int) (s117 : List Int) : Option (Session × List Int × Session × List Int) :=
  br p134 (
    bnd (m54 (⟨s114, a0, s115⟩ : side) (⟨s116, a1, s117⟩ : side)) fun p => sel3 p fun r138 r139 r140 =>
    some (r138, r139, s116, r140)) (
    bnd (m33_9 (eqI x119 2) s114 a0 s115 s116 a1 s117) fun p => sel3 p fun v150 v151 v152 =>
    some (s114, v150, v151, v152))
noncomputable def m33_7 (x119 : Int) (p124 : Bool) (s114 : Session) (a0 : Int) (s115 : List Int) (s116 : Session) (a1 : Int) (s117 : List Int) : Option (Session × List Int × Session × List Int) :=
  br p124 (
    bnd (m53 (⟨s114, a0, s115⟩ : side) (⟨s116, a1, s117⟩ : side) (⟨10, 0⟩ : Evt)) fun p => sel2 p fun r128 r129 =>
    bnd (m53 (⟨s116, a1, r129⟩ : side) (⟨r128, a0, s115⟩ : side) (⟨10, 0⟩ : Evt)) fun p => sel2 p fun r132 r133 =>
    some (r128, r133, r132, r129)) (
    bnd (m33_8 x119 (eqI x119 1) s114 a0 s115 s116 a1 s117) fun p => sel4 p fun v155 v156 v157 v158 =>
    some (v155, v156, v157, v158))
noncomputable def m33_3b (a2 : (List Int)) (p63 : Int) (a0 : Int) (a1 : Int) (p : (Int × Session × List Int × Session × List Int)) : Option (Ctl (Int × Session × List Int × Session × List Int) (Session × List Int × Session × List Int)) :=
  sel5 p fun s113 s114 s115 s116 s117 =>
  br (ltI s113 p63) (
    bnd (idx a2 s113) fun x119 =>
    bnd (m33_7 x119 (eqI x119 0) s114 a0 s115 s116 a1 s117) fun p => sel4 p fun v161 v162 v163 v164 =>
    some (.nxt (wadd .i64 s113 1, v161, v162, v163, v164))) (
    some (.out (s114, s115, s116, s117)))
noncomputable def m33 (a0 : Int) (a1 : Int) (a2 : (List Int)) : Option (Session × Session × Bool) :=
  bnd (m12 a0) fun p => sel2 p fun r3 r4 =>
  bnd (m12 a1) fun p => sel2 p fun r7 r8 =>
  bnd (m33_1 a2 r4 r8) fun v19 =>
  br v19 (
    some ((⟨0, 0, 0, 0, 0⟩ : Session), (⟨0, 0, 0, 0, 0⟩ : Session), false)) (
    bnd (loopP (m33_2b a0 a1 [1, 3]) (0, r3, [], r7, [])) fun p => sel4 p fun v59 v60 v61 v62 =>
    bnd (loopP (m33_3b a2 (↑a2.length : Int) a0 a1) (0, v59, v60, v61, v62)) fun p => sel4 p fun v167 v168 v169 v170 =>
    some (v167, v169, true))
-- f39 spec.l1In
noncomputable def m39_1 (a0 : Int) (a1 : Int) (a2 : Int) : Option Bool :=
  br (leI a1 a0) (
    some (leI a0 a2)) (
    some false)
noncomputable def m39 (a0 : Int) (a1 : Int) (a2 : Int) : Option Bool :=
  bnd (m39_1 a0 a1 a2) fun v4 =>
  some v4
-- f11 spec.NewSession
noncomputable def m11 (a0 : Int) : Option (Session × Bool) :=
  bnd (m39 a0 3 90) fun r3 =>
  br r3 (
    some ((⟨0, a0, 0, 0, 0⟩ : Session), true)) (
    some ((⟨0, 0, 0, 0, 0⟩ : Session), false))
-- f60 spec.l12To
noncomputable def m60 (a0 : Session) (a1 : Int) : Option Session :=
  some (⟨a1, a0.hold, 0, 0, a0.ups⟩ : Session)
-- f49 spec.l12Tick
noncomputable def m49 (a0 : Session) : Option (Session × (List Int)) :=
  br (ltI a0.state 2) (
    some (a0, [])) (
    br (eqI (wsub .i64 a0.left 1) 0) (
      bnd (m60 (⟨a0.state, a0.hold, wsub .i64 a0.left 1, a0.quiet, a0.ups⟩ : Session) 0) fun r5 =>
      some (r5, [3])) (
      br (eqI a0.state 2) (
        some ((⟨a0.state, a0.hold, wsub .i64 a0.left 1, a0.quiet, a0.ups⟩ : Session), [])) (
        br (eqI (wsub .i64 a0.quiet 1) 0) (
          some ((⟨a0.state, a0.hold, wsub .i64 a0.left 1, wquo .i64 a0.hold 3, a0.ups⟩ : Session), [4])) (
          some ((⟨a0.state, a0.hold, wsub .i64 a0.left 1, wsub .i64 a0.quiet 1, a0.ups⟩ : Session), [])))))
-- f42 spec.l12Step
noncomputable def m42_1 (a0 : Session) (a1 : Evt) : Option Bool :=
  br (eqI a1.kind 1) (
    some (eqI a0.state 0)) (
    some false)
noncomputable def m42_2 (a0 : Session) (a1 : Evt) : Option Bool :=
  br (eqI a1.kind 3) (
    some (eqI a0.state 1)) (
    some false)
noncomputable def m42_3 (p26 : Bool) (a1 : Evt) : Option Bool :=
  br (eqI a1.kind 4) (
    some p26) (
    some false)
noncomputable def m42_4 (p36 : Bool) (a1 : Evt) : Option Bool :=
  br (eqI a1.kind 9) (
    some p36) (
    some false)
noncomputable def m42_5 (p46 : Bool) (a1 : Evt) : Option Bool :=
  br (eqI a1.kind 2) (
    some (!p46)) (
    some false)
noncomputable def m42_6 (a0 : Session) (a1 : Evt) : Option Bool :=
  br (eqI a1.kind 5) (
    br (eqI a0.state 2) (
      some (leI 3 a1.n)) (
      some false)) (
    some false)
noncomputable def m42_7 (p64 : Bool) (p65 : Session) (a1 : Evt) : Option Session :=
  br p64 (
    some (⟨p65.state, a1.n, p65.left, p65.quiet, p65.ups⟩ : Session)) (
    some p65)
noncomputable def m42_8 (a0 : Session) (a1 : Evt) : Option Bool :=
  br (eqI a1.kind 7) (
    some (leI 3 a0.state)) (
    some false)
noncomputable def m42_10 (a0 : Session) (a1 : Evt) : Option Bool :=
  br (eqI a1.kind 8) (
    some (eqI a0.state 4)) (
    some false)
noncomputable def m42_9 (v75 : Bool) (a0 : Session) (a1 : Evt) : Option Bool :=
  br v75 (
    some v75) (
    bnd (m42_10 a0 a1) fun v81 =>
    some v81)
noncomputable def m42_11 (a0 : Session) : Option Bool :=
  br (eqI a0.state 3) (
    some (ltI a0.ups 1000)) (
    some false)
noncomputable def m42_12 (v90 : Bool) (a0 : Session) : Option Session :=
  br v90 (
    some (⟨a0.state, a0.hold, a0.left, a0.quiet, wadd .i64 a0.ups 1⟩ : Session)) (
    some a0)
noncomputable def m42 (a0 : Session) (a1 : Evt) : Option (Session × (List Int)) :=
  br (eqI a1.kind 10) (
    bnd (m49 a0) fun p => sel2 p fun r4 r5 =>
    some (r4, r5)) (
    bnd (m42_1 a0 a1) fun v11 =>
    br v11 (
      bnd (m60 a0 1) fun r15 =>
      some (r15, [])) (
      bnd (m42_2 a0 a1) fun v21 =>
      br v21 (
        bnd (m60 a0 2) fun r25 =>
        some ((⟨r25.state, r25.hold, 90, r25.quiet, r25.ups⟩ : Session), [1])) (
        bnd (m42_3 (leI 2 a0.state) a1) fun v31 =>
        br v31 (
          bnd (m60 a0 1) fun r35 =>
          some (r35, [])) (
          bnd (m42_4 (leI 2 a0.state) a1) fun v41 =>
          br v41 (
            bnd (m60 a0 0) fun r45 =>
            some (r45, [])) (
            bnd (m42_5 (leI 2 a0.state) a1) fun v51 =>
            br v51 (
              bnd (m60 a0 0) fun r55 =>
              some (r55, [])) (
              br (leI 2 a0.state) (
                bnd (m42_6 a0 a1) fun v62 =>
                br v62 (
                  bnd (m42_7 (ltI a1.n a0.hold) (⟨3, a0.hold, a0.left, a0.quiet, a0.ups⟩ : Session) a1) fun v70 =>
                  some ((⟨v70.state, v70.hold, v70.hold, wquo .i64 v70.hold 3, v70.ups⟩ : Session), [4])) (
                  bnd (m42_8 a0 a1) fun v75 =>
                  bnd (m42_9 v75 a0 a1) fun v84 =>
                  br v84 (
                    bnd (m42_11 a0) fun v90 =>
                    bnd (m42_12 v90 a0) fun v95 =>
                    some ((⟨4, v95.hold, v95.hold, v95.quiet, v95.ups⟩ : Session), [])) (
                    bnd (m60 a0 0) fun r98 =>
                    some (r98, [3])))) (
                some (a0, []))))))))
-- f48 spec.l12Side1
noncomputable def m48 (a0 : Int) : Option l12Side :=
  bnd (m11 a0) fun p => sel2 p fun r3 r4 =>
  bnd (m42 r3 (⟨1, 0⟩ : Evt)) fun p => sel2 p fun r7 r8 =>
  bnd (m42 r7 (⟨3, 0⟩ : Evt)) fun p => sel2 p fun r11 r12 =>
  some (⟨r11, [], a0⟩ : l12Side)
-- f50 spec.l12Come
noncomputable def m50_3 (p17 : Bool) (p13 : Evt) : Option Evt :=
  br p17 (
    some (⟨8, p13.n⟩ : Evt)) (
    some p13)
noncomputable def m50_2 (x2 : Int) (p15 : Bool) (p13 : Evt) : Option Evt :=
  br p15 (
    some (⟨7, p13.n⟩ : Evt)) (
    bnd (m50_3 (eqI x2 2) p13) fun v21 =>
    some v21)
noncomputable def m50_1 (a1 : Int) (x2 : Int) (p10 : Bool) (p13 : Evt) : Option Evt :=
  br p10 (
    some (⟨5, a1⟩ : Evt)) (
    bnd (m50_2 x2 (eqI x2 4) p13) fun v24 =>
    some v24)
noncomputable def m50 (a0 : l12Side) (a1 : Int) : Option (Session × List Int × List Int) :=
  br (eqI (↑a0.in_.length : Int) 0) (
    some (a0.s, a0.in_, [])) (
    bnd (idx a0.in_ 0) fun x2 =>
    ck (0 ≤ 1 ∧ 1 ≤ (↑a0.in_.length : Int)) <|
    ck (0 + ((a0.in_.drop 1).take (a0.in_.length - 1)).length ≤ 4294967296) <|
    bnd (m50_1 a1 x2 (eqI x2 1) (⟨9, 0⟩ : Evt)) fun v27 =>
    bnd (m42 a0.s v27) fun p => sel2 p fun r30 r31 =>
    some (r30, ((a0.in_.drop 1).take (a0.in_.length - 1)), r31))
-- f31 spec.PlayPair
noncomputable def m31_1 (a0 : Int) (a1 : Int) (a2 : (List Int)) : Option Bool :=
  bnd (m39 a0 3 90) fun r5 =>
  br r5 (
    bnd (m39 a1 3 90) fun r9 =>
    br r9 (
      some (ltI 100 (↑a2.length : Int))) (
      some true)) (
    some true)
noncomputable def m31_6 (a0 : Int) (a1 : Int) (x83 : Int) (p98 : Bool) (s78 : Session) (r17 : l12Side) (s79 : List Int) (s80 : Session) (r20 : l12Side) (s81 : List Int) : Option ((Session × List Int × Session × List Int × List Int × List Int) ⊕ (Session × Session)) :=
  br p98 (
    bnd (m50 (⟨s78, s79, r17.asks⟩ : l12Side) a1) fun p => sel3 p fun r102 r103 r104 =>
    some (.inl (r102, r103, s80, s81, [], r104))) (
    br (eqI x83 2) (
      bnd (m50 (⟨s80, s81, r20.asks⟩ : l12Side) a0) fun p => sel3 p fun r108 r109 r110 =>
      some (.inl (s78, s79, r108, r109, r110, []))) (
      some (.inr ((⟨0, 0, 0, 0, 0⟩ : Session), (⟨0, 0, 0, 0, 0⟩ : Session)))))
noncomputable def m31_5 (a0 : Int) (a1 : Int) (x83 : Int) (p88 : Bool) (s78 : Session) (r17 : l12Side) (s79 : List Int) (s80 : Session) (r20 : l12Side) (s81 : List Int) : Option ((Session × List Int × Session × List Int × List Int × List Int) ⊕ (Session × Session)) :=
  br p88 (
    bnd (m49 s78) fun p => sel2 p fun r92 r93 =>
    bnd (m49 s80) fun p => sel2 p fun r96 r97 =>
    some (.inl (r92, s79, r96, s81, r97, r93))) (
    bnd (m31_6 a0 a1 x83 (eqI x83 1) s78 r17 s79 s80 r20 s81) fun o => selS o (fun p => sel6 p fun v113 v114 v115 v116 v117 v118 =>
      some (.inl (v113, v114, v115, v116, v117, v118))) (fun p => sel2 p fun v119 v120 =>
      some (.inr (v119, v120))))
noncomputable def m31_2b (a0 : Int) (a1 : Int) (a2 : (List Int)) (p21 : Int) (r17 : l12Side) (r20 : l12Side) (p : (Int × Session × List Int × Session × List Int)) : Option (Ctl (Int × Session × List Int × Session × List Int) ((Session × List Int × Session × List Int) ⊕ (Session × Session))) :=
  sel5 p fun s77 s78 s79 s80 s81 =>
  br (ltI s77 p21) (
    bnd (idx a2 s77) fun x83 =>
    bnd (m31_5 a0 a1 x83 (eqI x83 0) s78 r17 s79 s80 r20 s81) fun o => selS o (fun p => sel6 p fun v123 v124 v125 v126 v127 v128 =>
      ck (v124.length + v127.length ≤ 4294967296) <|
      ck (v126.length + v128.length ≤ 4294967296) <|
      some (.nxt (wadd .i64 s77 1, v123, v124 ++ v127, v125, v126 ++ v128))) (fun p => sel2 p fun v131 v132 =>
      some (.out (.inr (v131, v132))))) (
    some (.out (.inl (s78, s79, s80, s81))))
noncomputable def m31 (a0 : Int) (a1 : Int) (a2 : (List Int)) : Option (Session × Session × Bool) :=
  bnd (m31_1 a0 a1 a2) fun v13 =>
  br v13 (
    some ((⟨0, 0, 0, 0, 0⟩ : Session), (⟨0, 0, 0, 0, 0⟩ : Session), false)) (
    bnd (m48 a0) fun r17 =>
    bnd (m48 a1) fun r20 =>
    bnd (loopP (m31_2b a0 a1 a2 (↑a2.length : Int) r17 r20) (0, r17.s, [1], r20.s, [1])) fun o => selS o (fun p => sel4 p fun v135 v136 v137 v138 =>
      some (v135, v137, true)) (fun p => sel2 p fun v139 v140 =>
      some (v139, v140, false)))
-- f16 impl.GoodSession
noncomputable def m16_1 (a0 : Session) : Option Bool :=
  bnd (m40 a0.state 0 4) fun r3 =>
  br r3 (
    bnd (m40 a0.hold 3 90) fun r7 =>
    br r7 (
      bnd (m40 a0.ups 0 1000) fun r11 =>
      some (!r11)) (
      some true)) (
    some true)
noncomputable def m16_2 (p16 : Bool) (p18 : Bool) (a0 : Session) : Option Bool :=
  br p18 (
    bnd (m40 a0.left 1 90) fun r22 =>
    some r22) (
    some p16)
noncomputable def m16_3 (p26 : Bool) (p27 : Bool) (a0 : Session) : Option Bool :=
  br p27 (
    bnd (m40 a0.quiet 1 30) fun r31 =>
    some r31) (
    some p26)
noncomputable def m16_4 (v25 : Bool) (v34 : Bool) : Option Bool :=
  br v25 (
    some v34) (
    some false)
noncomputable def m16 (a0 : Session) : Option Bool :=
  bnd (m16_1 a0) fun v14 =>
  br v14 (
    some false) (
    bnd (m16_2 (eqI a0.left 0) (leI 2 a0.state) a0) fun v25 =>
    bnd (m16_3 (eqI a0.quiet 0) (leI 3 a0.state) a0) fun v34 =>
    bnd (m16_4 v25 v34) fun v38 =>
    some v38)
-- f9 laws.FnPair
noncomputable def m9_1 (r11 : Bool) (r16 : Bool) (r9 : Session) (r10 : Session) (r14 : Session) (r15 : Session) : Option Bool :=
  br (eqB r11 r16) (
    br (eqI r9.state r14.state && (eqI r9.hold r14.hold && (eqI r9.left r14.left && (eqI r9.quiet r14.quiet && eqI r9.ups r14.ups)))) (
      some (!(eqI r10.state r15.state && (eqI r10.hold r15.hold && (eqI r10.left r15.left && (eqI r10.quiet r15.quiet && eqI r10.ups r15.ups)))))) (
      some true)) (
    some true)
noncomputable def m9_2 (r4 : Int) (r5 : Int) (p24 : Bool) : Option Int :=
  br p24 (
    some r5) (
    some r4)
noncomputable def m9_3 (v28 : Int) (r9 : Session) (r10 : Session) : Option Bool :=
  bnd (m16 r9) fun r31 =>
  br r31 (
    bnd (m16 r10) fun r35 =>
    br r35 (
      br (eqI r9.state 4) (
        br (eqI r9.hold v28) (
          br (eqI r10.state 4) (
            some (!(eqI r10.hold v28))) (
            some false)) (
          some true)) (
        br (eqI r10.state 4) (
          some (!(eqI r10.hold v28))) (
          some false))) (
      some true)) (
    some true)
noncomputable def m9_4 (r49 : Bool) (r47 : Session) (r48 : Session) : Option Bool :=
  br r49 (
    br (eqI r47.state 4) (
      br (eqI r48.state 4) (
        br (eqI r47.ups 1) (
          some (eqI r48.ups 1)) (
          some false)) (
        some false)) (
      some false)) (
    some false)
noncomputable def m9 (a0 : (List Int)) : Option Bool :=
  br (ltI 1048576 (↑a0.length : Int)) (
    some true) (
    bnd (m34 a0) fun p => sel3 p fun r4 r5 r6 =>
    bnd (m33 r4 r5 r6) fun p => sel3 p fun r9 r10 r11 =>
    bnd (m31 r4 r5 r6) fun p => sel3 p fun r14 r15 r16 =>
    bnd (m9_1 r11 r16 r9 r10 r14 r15) fun v21 =>
    br v21 (
      some false) (
      br r11 (
        bnd (m9_2 r4 r5 (ltI r5 r4)) fun v28 =>
        bnd (m9_3 v28 r9 r10) fun v43 =>
        br v43 (
          some false) (
          bnd (m33 r4 r5 [1, 2, 1, 2]) fun p => sel3 p fun r47 r48 r49 =>
          bnd (m9_4 r49 r47 r48) fun v56 =>
          some v56)) (
        some (eqI r9.hold 0))))
end Go.Pi.Ytcihklkihglmjaa.Pair
