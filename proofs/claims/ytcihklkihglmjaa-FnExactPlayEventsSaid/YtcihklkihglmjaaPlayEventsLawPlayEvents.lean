/- What functions of the program answer, and that the law answers true at every input; no condition -/
import Derived.Test.YtcihklkihglmjaaPlayEventsStdPlayEvents
set_option linter.all false
/- PlayEvents: the program answers as the reference does. -/
namespace Go.Pi.Ytcihklkihglmjaa.PlayEvents
open Go Go.Pi
set_option linter.all false
def goodS (s : Session) : Prop := 0 ≤ s.state ∧ s.state ≤ 4 ∧ 3 ≤ s.hold ∧ s.hold ≤ 90 ∧ 0 ≤ s.ups ∧ s.ups ≤ 1000 ∧ (s.state < 2 → s.left = 0) ∧ (2 ≤ s.state → 1 ≤ s.left ∧ s.left ≤ 90) ∧ (s.state < 3 → s.quiet = 0) ∧ (3 ≤ s.state → 1 ≤ s.quiet ∧ s.quiet ≤ 30)
def goodE (e : Evt) : Prop := 1 ≤ e.kind ∧ e.kind ≤ 10 ∧ (e.kind = 5 → 0 ≤ e.n ∧ e.n ≤ 100) ∧ (e.kind ≠ 5 → e.n = 0)
instance (e : Evt) : Decidable (goodE e) := by unfold goodE; infer_instance
theorem p41 (s : Evt) : m41 s = some (decide (goodE s)) := by
  simp only [m41, m41_1, m39, m39_1, bnd_ok, br_bool]
  rw [Option.some.injEq, Bool.eq_iff_iff, decide_eq_true_eq]
  simp only [Bool.and_eq_true, Bool.or_eq_true, Bool.not_eq_true', Bool.and_eq_false_iff, Bool.or_eq_false_iff, Bool.not_eq_false', eqI_iff, leI_iff, ltI_iff, eqI_not, leI_not, ltI_not, decide_eq_true_eq, Bool.false_eq_true, and_false, false_or, or_false, Bool.true_eq_false, true_and, and_true, not_false_eq_true, not_true_eq_false, goodS, goodE]
  omega
theorem p43 (s : Evt) : m43 s = some (decide (goodE s)) := by
  simp only [m43, m43_1, m40, m40_1, bnd_ok, br_bool]
  rw [Option.some.injEq, Bool.eq_iff_iff, decide_eq_true_eq]
  simp only [Bool.and_eq_true, Bool.or_eq_true, Bool.not_eq_true', Bool.and_eq_false_iff, Bool.or_eq_false_iff, Bool.not_eq_false', eqI_iff, leI_iff, ltI_iff, eqI_not, leI_not, ltI_not, decide_eq_true_eq, Bool.false_eq_true, and_false, false_or, or_false, Bool.true_eq_false, true_and, and_true, not_false_eq_true, not_true_eq_false, goodS, goodE]
  omega
theorem step (s : Session) (e : Evt) (hs : goodS s) (he : goodE e) : m42 s e = m44 s e := by
  obtain ⟨h1, h2, h3, h4, h5, h6, h7, h8, h9, h10⟩ := hs
  obtain ⟨g1, g2, g3, g4⟩ := he
  have e1 : wsub .i64 s.left 1 = s.left - 1 := wsub64 (by omega) (by omega)
  have e2 : wsub .i64 s.quiet 1 = s.quiet - 1 := wsub64 (by omega) (by omega)
  have e3 : wadd .i64 s.ups 1 = s.ups + 1 := wadd64 (by omega) (by omega)
  simp only [m42, m44, m42_1, m42_2, m42_3, m42_4, m42_5, m42_6, m42_7, m42_8, m42_9, m42_10, m42_11, m42_12, m49, m60, m61, m62, m44_1, m44_2, m44_3, m44_4, m44_5, m44_6, e1, e2, e3, bnd_ok, sel2_eq, br_ite, bnd_ite, eqI_iff, leI_iff, ltI_iff, wmin, eqI, leI, ltI]
  have hq : s.state = 0 ∨ s.state = 1 ∨ s.state = 2 ∨ s.state = 3 ∨ s.state = 4 := by omega
  have hk : e.kind = 1 ∨ e.kind = 2 ∨ e.kind = 3 ∨ e.kind = 4 ∨ e.kind = 5 ∨ e.kind = 6 ∨ e.kind = 7 ∨ e.kind = 8 ∨ e.kind = 9 ∨ e.kind = 10 := by omega
  rcases hq with hq | hq | hq | hq | hq <;> rcases hk with hk | hk | hk | hk | hk | hk | hk | hk | hk | hk <;> simp [hq, hk] <;> grind
theorem step_some (s : Session) (e : Evt) (hs : goodS s) (he : goodE e) : Ans (fun r => r.2.length ≤ 1 ∧ goodS r.1) (m42 s e) := by
  obtain ⟨h1, h2, h3, h4, h5, h6, h7, h8, h9, h10⟩ := hs
  obtain ⟨g1, g2, g3, g4⟩ := he
  have e1 : wsub .i64 s.left 1 = s.left - 1 := wsub64 (by omega) (by omega)
  have e2 : wsub .i64 s.quiet 1 = s.quiet - 1 := wsub64 (by omega) (by omega)
  have e3 : wadd .i64 s.ups 1 = s.ups + 1 := wadd64 (by omega) (by omega)
  have q1 : ∀ x : Int, 3 ≤ x → x ≤ 90 → 1 ≤ wquo .i64 x 3 ∧ wquo .i64 x 3 ≤ 30 := by
    intro x hx1 hx2
    have e0 : x.tdiv 3 = x / 3 := Int.tdiv_eq_ediv_of_nonneg (by omega)
    have e : wquo .i64 x 3 = x / 3 := by unfold wquo; rw [e0, w64 (by omega) (by omega)]
    rw [e]; omega
  have q2 := q1 s.hold h3 h4
  have q3 := q1 e.n
  simp only [m42, m42_1, m42_2, m42_3, m42_4, m42_5, m42_6, m42_7, m42_8, m42_9, m42_10, m42_11, m42_12, m49, m60, e1, e2, e3, bnd_ok, sel2_eq, br_ite, bnd_ite, ans_ite, ans_some, eqI_iff, leI_iff, ltI_iff, goodS, List.length_nil, List.length_cons, Nat.zero_le, Nat.le_refl, true_and, Bool.not_eq_true']
  have hq : s.state = 0 ∨ s.state = 1 ∨ s.state = 2 ∨ s.state = 3 ∨ s.state = 4 := by omega
  rcases hq with hq | hq | hq | hq | hq <;> simp [hq] <;> grind
noncomputable def st (s : Session) (e : Evt) : Session × List Int := (m42 s e).getD (s, [])
theorem st_eq (s : Session) (e : Evt) (hs : goodS s) (he : goodE e) : m42 s e = some (st s e) ∧ m44 s e = some (st s e) ∧ (st s e).2.length ≤ 1 ∧ goodS (st s e).1 := by
  obtain ⟨r, h, h1, h2⟩ := step_some s e hs he
  have h' := step s e hs he
  have e0 : st s e = r := by unfold st; rw [h]; rfl
  rw [e0, ← h', h]
  exact ⟨rfl, rfl, h1, h2⟩
noncomputable def run : Session → List Int → List Evt → Option (Session × List Int)
  | s, acc, [] => some (s, acc)
  | s, acc, e :: r => if goodE e then run (st s e).1 (acc ++ (st s e).2) r else none
def flat (x : Session × List Int) : Int × Int × Int × Int × Int × List Int := (x.1.state, x.1.hold, x.1.left, x.1.quiet, x.1.ups, x.2)
theorem spec_loop (es : List Evt) (hl : es.length ≤ 100) : ∀ (n k : Nat) (s : Session) (acc : List Int), n + k = es.length → acc.length ≤ k → goodS s →
    loopP (m26_2b es (es.length : Int)) ((k : Int), s.state, s.hold, s.left, s.quiet, s.ups, acc) = some (match run s acc (es.drop k) with | some x => .inl (flat x) | none => .inr ()) := by
  intro n
  induction n with
  | zero =>
    intro k s acc hk ha hs
    rw [List.drop_eq_nil_of_le (by omega)]
    refine loopP_out ?_
    simp only [m26_2b, sel7, (ltI_not (k : Int) (es.length : Int)).2 (by omega), br_false]
    rfl
  | succ n ih =>
    intro k s acc hk ha hs
    have h : k < es.length := by omega
    rw [List.drop_eq_getElem_cons h, run]
    by_cases he : goodE es[k]
    · obtain ⟨e1, _, e3, e4⟩ := st_eq s es[k] hs he
      rw [if_pos he]
      have e1' : m42 (⟨s.state, s.hold, s.left, s.quiet, s.ups⟩ : Session) es[k] = some (st s es[k]) := e1
      have hc : acc.length + (st s es[k]).2.length ≤ 4294967296 := by omega
      have hsel : ∀ {γ : Type} (f : Session → List Int → Option γ), sel2 (st s es[k]) f = f (st s es[k]).1 (st s es[k]).2 := fun f => rfl
      rw [← ih (k + 1) (st s es[k]).1 (acc ++ (st s es[k]).2) (by omega) (by simp; omega) e4]
      refine loopP_nxt ?_
      simp only [m26_2b, sel7, (ltI_iff (k : Int) (es.length : Int)).2 (by omega), br_true, idx_get h, bnd_ok, p41, he, decide_true, e1', hsel, ck_ok hc, wsucc h (by omega)]
    · rw [if_neg he]
      refine loopP_out ?_
      simp only [m26_2b, sel7, (ltI_iff (k : Int) (es.length : Int)).2 (by omega), br_true, idx_get h, bnd_ok, p41, he, decide_false, br_false]
theorem impl_loop (es : List Evt) (hl : es.length ≤ 100) (hg : ∀ e ∈ es, goodE e) : ∀ (n k : Nat) (s : Session) (acc : List Int), n + k = es.length → acc.length ≤ k → goodS s →
    ∃ x, run s acc (es.drop k) = some x ∧ x.2.length ≤ es.length ∧ loopP (m28_2b es (es.length : Int)) ((k : Int), s.state, s.hold, s.left, s.quiet, s.ups, acc) = some (flat x) := by
  intro n
  induction n with
  | zero =>
    intro k s acc hk ha hs
    rw [List.drop_eq_nil_of_le (by omega)]
    refine ⟨_, rfl, by show acc.length ≤ _; omega, loopP_out ?_⟩
    simp only [m28_2b, sel7, (ltI_not (k : Int) (es.length : Int)).2 (by omega), br_false]
    rfl
  | succ n ih =>
    intro k s acc hk ha hs
    have h : k < es.length := by omega
    have he := hg es[k] (List.getElem_mem h)
    rw [List.drop_eq_getElem_cons h, run, if_pos he]
    obtain ⟨_, e1, e3, e4⟩ := st_eq s es[k] hs he
    have e1' : m44 (⟨s.state, s.hold, s.left, s.quiet, s.ups⟩ : Session) es[k] = some (st s es[k]) := e1
    have hc : acc.length + (st s es[k]).2.length ≤ 4294967296 := by omega
    have hsel : ∀ {γ : Type} (f : Session → List Int → Option γ), sel2 (st s es[k]) f = f (st s es[k]).1 (st s es[k]).2 := fun f => rfl
    obtain ⟨x, x1, x2, x3⟩ := ih (k + 1) (st s es[k]).1 (acc ++ (st s es[k]).2) (by omega) (by simp; omega) e4
    refine ⟨x, x1, x2, ?_⟩
    rw [← x3]
    refine loopP_nxt ?_
    simp only [m28_2b, sel7, (ltI_iff (k : Int) (es.length : Int)).2 (by omega), br_true, idx_get h, bnd_ok, e1', hsel, ck_ok hc, wsucc h (by omega)]
theorem run_bad (es : List Evt) : ∀ (s : Session) (acc : List Int), (∃ e ∈ es, ¬ goodE e) → run s acc es = none := by
  induction es with
  | nil => rintro s acc ⟨e, he, _⟩; cases he
  | cons e r ih =>
    rintro s acc ⟨x, hx, hb⟩
    rw [run]
    by_cases he : goodE e
    · rw [if_pos he]
      refine ih _ _ ?_
      rcases List.mem_cons.1 hx with rfl | hx
      · exact absurd he hb
      · exact ⟨x, hx, hb⟩
    · rw [if_neg he]
theorem p45 (es : List Evt) (hl : es.length ≤ 100) : m45 es (fun y0 => m46 y0) = some (es.any fun e => !decide (goodE e)) := by
  simp only [m45, m63, indexFunc (body := m63_1b es (es.length : Int) (fun y0 => m46 y0)) (f := fun y0 => m46 y0) es (fun e => !decide (goodE e)) (fun x _ => by simp only [m46, p43, bnd_ok]) (by omega) (fun s => rfl), bnd_ok, containsFunc]
theorem same (a : Int) (es : List Evt) : ∃ x y z, m26 a es = some (x, y, z) ∧ m28 a es = some (x, y, z) ∧ y.length ≤ 100 := by
  have hr : (∃ x b, m11 a = some (x, b) ∧ m12 a = some (x, b) ∧ (b = true → goodS x)) := by
    simp only [m11, m12, m39, m39_1, m40, m40_1, bnd_ok, br_and]
    by_cases h : 3 ≤ a ∧ a ≤ 90
    · rw [(leI_iff _ _).2 h.1, (leI_iff _ _).2 h.2]
      exact ⟨_, _, rfl, rfl, fun _ => by unfold goodS; simp; omega⟩
    · have : (leI 3 a && leI a 90) = false := by
        by_cases h1 : 3 ≤ a
        · rw [(leI_not a 90).2 (by omega), Bool.and_false]
        · rw [(leI_not 3 a).2 (by omega), Bool.false_and]
      rw [this]
      exact ⟨_, _, rfl, rfl, fun h => by cases h⟩
  obtain ⟨x, b, e1, e2, hg⟩ := hr
  simp only [m26, m28, e1, e2, bnd_ok, sel2_ok, m26_1, m28_1]
  cases b with
  | false => exact ⟨_, _, _, rfl, rfl, by simp⟩
  | true =>
    by_cases hl : es.length ≤ 100
    · have hn : ltI 100 (es.length : Int) = false := (ltI_not _ _).2 (by omega)
      have hx := hg rfl
      have hs := spec_loop es hl es.length 0 x [] (by omega) (Nat.le_refl _) hx
      rw [List.drop_zero] at hs
      have hs' : loopP (m26_2b es (es.length : Int)) (0, x.state, x.hold, x.left, x.quiet, x.ups, []) = _ := hs
      by_cases hb : ∃ e ∈ es, ¬ goodE e
      · have hi0 : (es.any fun e => !decide (goodE e)) = true := by obtain ⟨e, he, hn⟩ := hb; exact List.any_eq_true.2 ⟨e, he, by simp [hn]⟩
        rw [run_bad es x [] hb] at hs'
        simp only [br_true, br_false, hn, bnd_ok, hs', selS_inr, p45 es hl, hi0]
        exact ⟨_, _, _, rfl, rfl, by simp⟩
      · have hi0 : (es.any fun e => !decide (goodE e)) = false := by cases h : (es.any fun e => !decide (goodE e)) with | false => rfl | true => (obtain ⟨e, he, hn⟩ := List.any_eq_true.1 h; exact absurd ⟨e, he, by simpa using hn⟩ hb)
        obtain ⟨y, y1, y2, y3⟩ := impl_loop es hl (fun e he => Classical.byContradiction fun hn => hb ⟨e, he, hn⟩) es.length 0 x [] (by omega) (Nat.le_refl _) hx
        rw [List.drop_zero] at y1
        rw [y1] at hs'
        have y3' : loopP (m28_2b es (es.length : Int)) (0, x.state, x.hold, x.left, x.quiet, x.ups, []) = _ := y3
        simp only [br_true, br_false, hn, bnd_ok, hs', selS_inl, p45 es hl, hi0, y3', flat, sel6]
        exact ⟨_, _, _, rfl, rfl, by omega⟩
    · have hn : ltI 100 (es.length : Int) = true := (ltI_iff _ _).2 (by omega)
      simp only [hn, br_true, bnd_ok]
      exact ⟨_, _, _, rfl, rfl, by simp⟩
theorem law (a : Int) (es : List Evt) (ha : wfInt a) (hb : wfLEvt es) : m7 a es = some true := by
  obtain ⟨v, e, l, u, s⟩ := z25 es 1048576 hb (by omega) (by omega)
  unfold m7
  rw [e, bnd_ok]
  by_cases c : v < 0
  · rw [(ltI_iff _ _).2 c]; rfl
  rw [(ltI_not _ _).2 (by omega), br_false]
  have se := s (by omega)
  have se' : es.length ≤ 1048576 := se
  obtain ⟨x, y, z, e1, e2, hy⟩ := same a es
  have sx : smSession x := ⟨trivial, trivial, trivial, trivial, trivial⟩
  have sy : smLInt y := by unfold smLInt; omega
  obtain ⟨ys, k1, k2⟩ := k30 es 1 se (by omega) (by omega)
  have n0 : ltI (1 + ((2 : Nat) : Int) * (es.length : Int)) 0 = false := (ltI_not _ _).2 (by omega)
  have n1 : ltI (1 + (y.length : Int)) 0 = false := (ltI_not _ _).2 (by omega)
  simp only [t27 es se, bnd_ok, e1, e2, sel3_ok, m7_1, m7_2, m7_3, q13 x sx, q22 y sy, q29 es se, eqB_self, br_true, br_false, Bool.not_true, k1, sel2_ok, ck_ok k2, n0, k23 y 1 sy (by omega) (by omega), ramp_length, ck_ok, d24 y.length 1 sy (by omega) (by omega), n1, eqI_self]
end Go.Pi.Ytcihklkihglmjaa.PlayEvents
