/- What functions of the program answer, and that the law answers true at every input; no condition -/
import Derived.Test.YtcihklkihglmjaaStepSessionStdStepSession
set_option linter.all false
/- StepSession: the program answers as the reference does. -/
namespace Go.Pi.Ytcihklkihglmjaa.StepSession
open Go Go.Pi
set_option linter.all false
def goodS (s : Session) : Prop := 0 ≤ s.state ∧ s.state ≤ 4 ∧ 3 ≤ s.hold ∧ s.hold ≤ 90 ∧ 0 ≤ s.ups ∧ s.ups ≤ 1000 ∧ (s.state < 2 → s.left = 0) ∧ (2 ≤ s.state → 1 ≤ s.left ∧ s.left ≤ 90) ∧ (s.state < 3 → s.quiet = 0) ∧ (3 ≤ s.state → 1 ≤ s.quiet ∧ s.quiet ≤ 30)
instance (s : Session) : Decidable (goodS s) := by unfold goodS; infer_instance
def goodE (e : Evt) : Prop := 1 ≤ e.kind ∧ e.kind ≤ 10 ∧ (e.kind = 5 → 0 ≤ e.n ∧ e.n ≤ 100) ∧ (e.kind ≠ 5 → e.n = 0)
instance (e : Evt) : Decidable (goodE e) := by unfold goodE; infer_instance
theorem p14 (s : Session) : m14 s = some (decide (goodS s)) := by
  simp only [m14, m14_1, m14_2, m14_3, m14_4, m14_5, m39, m39_1, bnd_ok, br_bool]
  rw [Option.some.injEq, Bool.eq_iff_iff, decide_eq_true_eq]
  simp only [Bool.and_eq_true, Bool.or_eq_true, Bool.not_eq_true', Bool.and_eq_false_iff, Bool.or_eq_false_iff, Bool.not_eq_false', eqI_iff, leI_iff, ltI_iff, eqI_not, leI_not, ltI_not, decide_eq_true_eq, Bool.false_eq_true, and_false, false_or, or_false, Bool.true_eq_false, true_and, and_true, not_false_eq_true, not_true_eq_false, goodS, goodE]
  omega
theorem p16 (s : Session) : m16 s = some (decide (goodS s)) := by
  simp only [m16, m16_1, m16_2, m16_3, m16_4, m40, m40_1, bnd_ok, br_bool]
  rw [Option.some.injEq, Bool.eq_iff_iff, decide_eq_true_eq]
  simp only [Bool.and_eq_true, Bool.or_eq_true, Bool.not_eq_true', Bool.and_eq_false_iff, Bool.or_eq_false_iff, Bool.not_eq_false', eqI_iff, leI_iff, ltI_iff, eqI_not, leI_not, ltI_not, decide_eq_true_eq, Bool.false_eq_true, and_false, false_or, or_false, Bool.true_eq_false, true_and, and_true, not_false_eq_true, not_true_eq_false, goodS, goodE]
  omega
theorem p41 (s : Evt) : m41 s = some (decide (goodE s)) := by
  simp only [m41, m41_1, m39, m39_1, bnd_ok, br_bool]
  rw [Option.some.injEq, Bool.eq_iff_iff, decide_eq_true_eq]
  simp only [Bool.and_eq_true, Bool.or_eq_true, Bool.not_eq_true', Bool.and_eq_false_iff, Bool.or_eq_false_iff, Bool.not_eq_false', eqI_iff, leI_iff, ltI_iff, eqI_not, leI_not, ltI_not, decide_eq_true_eq, Bool.false_eq_true, and_false, false_or, or_false, Bool.true_eq_false, true_and, and_true, not_false_eq_true, not_true_eq_false, goodS, goodE]
  omega
theorem p43 (s : Evt) : m43 s = some (decide (goodE s)) := by
  simp only [m43, m43_1, m40, m40_1, bnd_ok, br_bool]
  rw [Option.some.injEq, Bool.eq_iff_iff, decide_eq_true_eq]
  simp only [Bool.and_eq_true, Bool.or_eq_true, Bool.not_eq_true', Bool.and_eq_false_iff, Bool.or_eq_false_iff, Bool.not_eq_false', eqI_iff, leI_iff, ltI_iff, eqI_not, leI_not, ltI_not, decide_eq_true_eq, Bool.false_eq_true, and_false, false_or, or_false, Bool.true_eq_false, true_and, and_true, not_false_eq_true, not_true_eq_false, goodS, goodE]
  omega
theorem step (s : Session) (e : Evt) (hs : goodS s) (he : goodE e) : m42 s e = m44 s e := by
  obtain ⟨h1, h2, h3, h4, h5, h6, h7, h8, h9, h10⟩ := hs
  obtain ⟨g1, g2, g3, g4⟩ := he
  have e1 : wsub .i64 s.left 1 = s.left - 1 := wsub64 (by omega) (by omega)
  have e2 : wsub .i64 s.quiet 1 = s.quiet - 1 := wsub64 (by omega) (by omega)
  have e3 : wadd .i64 s.ups 1 = s.ups + 1 := wadd64 (by omega) (by omega)
  simp only [m42, m44, m42_1, m42_2, m42_3, m42_4, m42_5, m42_6, m42_7, m42_8, m42_9, m42_10, m42_11, m42_12, m49, m60, m61, m62, m44_1, m44_2, m44_3, m44_4, m44_5, m44_6, e1, e2, e3, bnd_ok, sel2_eq, br_ite, bnd_ite, eqI_iff, leI_iff, ltI_iff, wmin, eqI, leI, ltI]
  have hq : s.state = 0 ∨ s.state = 1 ∨ s.state = 2 ∨ s.state = 3 ∨ s.state = 4 := by omega
  have hk : e.kind = 1 ∨ e.kind = 2 ∨ e.kind = 3 ∨ e.kind = 4 ∨ e.kind = 5 ∨ e.kind = 6 ∨ e.kind = 7 ∨ e.kind = 8 ∨ e.kind = 9 ∨ e.kind = 10 := by omega
  rcases hq with hq | hq | hq | hq | hq <;> rcases hk with hk | hk | hk | hk | hk | hk | hk | hk | hk | hk <;> simp [hq, hk] <;> grind
theorem step_some (s : Session) (e : Evt) : Ans (fun r => r.2.length ≤ 1) (m42 s e) := by
  simp [m42, m42_1, m42_2, m42_3, m42_4, m42_5, m42_6, m42_7, m42_8, m42_9, m42_10, m42_11, m42_12, m49, m60, bnd_ok, sel2_eq, br_ite, bnd_ite, ans_ite, ans_some]
theorem law (a : Session) (b : Evt) (ha : wfSession a) (hb : wfEvt b) : m6 a b = some true := by
  have sa : smSession a := ⟨trivial, trivial, trivial, trivial, trivial⟩
  have sb : smEvt b := ⟨trivial, trivial⟩
  have same : ∃ x y z, m19 a b = some (x, y, z) ∧ m21 a b = some (x, y, z) ∧ y.length ≤ 1 := by
    simp only [m19, m21, m19_1, m21_1, p14, p16, p41, p43, bnd_ok]
    by_cases hs : goodS a
    · by_cases he : goodE b
      · obtain ⟨r, e1, h1⟩ := step_some a b
        have e2 := step a b hs he
        rw [e1] at e2
        simp only [hs, he, decide_true, br_true, bnd_ok, Bool.not_true, br_false, e1, ← e2, sel2_eq]
        exact ⟨_, _, _, rfl, rfl, h1⟩
      · simp only [hs, he, decide_true, decide_false, br_true, bnd_ok, Bool.not_false]
        exact ⟨_, _, _, rfl, rfl, by simp⟩
    · simp only [hs, decide_false, br_false, bnd_ok, br_true]
      exact ⟨_, _, _, rfl, rfl, by simp⟩
  obtain ⟨x, y, z, e1, e2, hy⟩ := same
  have sx : smSession x := ⟨trivial, trivial, trivial, trivial, trivial⟩
  have sy : smLInt y := by unfold smLInt; omega
  have n1 : ltI (1 + (y.length : Int)) 0 = false := (ltI_not _ _).2 (by omega)
  simp only [m6, t15 a sa, t20 b sb, bnd_ok, e1, e2, sel3_ok, m6_1, m6_2, q13 x sx, q22 y sy, eqB_self, br_true, br_false, Bool.not_true, k23 y 1 sy (by omega) (by omega), sel2_ok, ramp_length, ck_ok, d24 y.length 1 sy (by omega) (by omega), n1, eqI_self]
end Go.Pi.Ytcihklkihglmjaa.StepSession
