/- What functions of the program answer, and that the law answers true at every input; no condition -/
import Derived.Test.YtcihklkihglmjaaFnSessionStdFnSession
set_option linter.all false
/- FnSession: nobody is up but behind an open and an alive, and who is silent too long is given up. -/
namespace Go.Pi.Ytcihklkihglmjaa.FnSession
open Go Go.Pi
set_option linter.all false
def goodS (s : Session) : Prop := 0 ≤ s.state ∧ s.state ≤ 4 ∧ 3 ≤ s.hold ∧ s.hold ≤ 90 ∧ 0 ≤ s.ups ∧ s.ups ≤ 1000 ∧ (s.state < 2 → s.left = 0) ∧ (2 ≤ s.state → 1 ≤ s.left ∧ s.left ≤ 90) ∧ (s.state < 3 → s.quiet = 0) ∧ (3 ≤ s.state → 1 ≤ s.quiet ∧ s.quiet ≤ 30)
instance (s : Session) : Decidable (goodS s) := by unfold goodS; infer_instance
def goodE (e : Evt) : Prop := 1 ≤ e.kind ∧ e.kind ≤ 10 ∧ (e.kind = 5 → 0 ≤ e.n ∧ e.n ≤ 100) ∧ (e.kind ≠ 5 → e.n = 0)
instance (e : Evt) : Decidable (goodE e) := by unfold goodE; infer_instance
theorem p14 (s : Session) : m14 s = some (decide (goodS s)) := by
  simp only [m14, m14_1, m14_2, m14_3, m14_4, m14_5, m39, m39_1, bnd_ok, br_bool]
  rw [Option.some.injEq, Bool.eq_iff_iff, decide_eq_true_eq]
  simp only [Bool.and_eq_true, Bool.or_eq_true, Bool.not_eq_true', Bool.and_eq_false_iff, Bool.or_eq_false_iff, Bool.not_eq_false', eqI_iff, leI_iff, ltI_iff, eqI_not, leI_not, ltI_not, decide_eq_true_eq, Bool.false_eq_true, and_false, false_or, or_false, Bool.true_eq_false, true_and, and_true, not_false_eq_true, not_true_eq_false, goodS, goodE]
  omega
theorem p16 (s : Session) : m16 s = some (decide (goodS s)) := by
  simp only [m16, m16_1, m16_2, m16_3, m16_4, m40, m40_1, bnd_ok, br_bool]
  rw [Option.some.injEq, Bool.eq_iff_iff, decide_eq_true_eq]
  simp only [Bool.and_eq_true, Bool.or_eq_true, Bool.not_eq_true', Bool.and_eq_false_iff, Bool.or_eq_false_iff, Bool.not_eq_false', eqI_iff, leI_iff, ltI_iff, eqI_not, leI_not, ltI_not, decide_eq_true_eq, Bool.false_eq_true, and_false, false_or, or_false, Bool.true_eq_false, true_and, and_true, not_false_eq_true, not_true_eq_false, goodS, goodE]
  omega
theorem p41 (s : Evt) : m41 s = some (decide (goodE s)) := by
  simp only [m41, m41_1, m39, m39_1, bnd_ok, br_bool]
  rw [Option.some.injEq, Bool.eq_iff_iff, decide_eq_true_eq]
  simp only [Bool.and_eq_true, Bool.or_eq_true, Bool.not_eq_true', Bool.and_eq_false_iff, Bool.or_eq_false_iff, Bool.not_eq_false', eqI_iff, leI_iff, ltI_iff, eqI_not, leI_not, ltI_not, decide_eq_true_eq, Bool.false_eq_true, and_false, false_or, or_false, Bool.true_eq_false, true_and, and_true, not_false_eq_true, not_true_eq_false, goodS, goodE]
  omega
theorem p43 (s : Evt) : m43 s = some (decide (goodE s)) := by
  simp only [m43, m43_1, m40, m40_1, bnd_ok, br_bool]
  rw [Option.some.injEq, Bool.eq_iff_iff, decide_eq_true_eq]
  simp only [Bool.and_eq_true, Bool.or_eq_true, Bool.not_eq_true', Bool.and_eq_false_iff, Bool.or_eq_false_iff, Bool.not_eq_false', eqI_iff, leI_iff, ltI_iff, eqI_not, leI_not, ltI_not, decide_eq_true_eq, Bool.false_eq_true, and_false, false_or, or_false, Bool.true_eq_false, true_and, and_true, not_false_eq_true, not_true_eq_false, goodS, goodE]
  omega
theorem step (s : Session) (e : Evt) (hs : goodS s) (he : goodE e) : m42 s e = m44 s e := by
  obtain ⟨h1, h2, h3, h4, h5, h6, h7, h8, h9, h10⟩ := hs
  obtain ⟨g1, g2, g3, g4⟩ := he
  have e1 : wsub .i64 s.left 1 = s.left - 1 := wsub64 (by omega) (by omega)
  have e2 : wsub .i64 s.quiet 1 = s.quiet - 1 := wsub64 (by omega) (by omega)
  have e3 : wadd .i64 s.ups 1 = s.ups + 1 := wadd64 (by omega) (by omega)
  simp only [m42, m44, m42_1, m42_2, m42_3, m42_4, m42_5, m42_6, m42_7, m42_8, m42_9, m42_10, m42_11, m42_12, m49, m60, m61, m62, m44_1, m44_2, m44_3, m44_4, m44_5, m44_6, e1, e2, e3, bnd_ok, sel2_eq, br_ite, bnd_ite, eqI_iff, leI_iff, ltI_iff, wmin, eqI, leI, ltI]
  have hq : s.state = 0 ∨ s.state = 1 ∨ s.state = 2 ∨ s.state = 3 ∨ s.state = 4 := by omega
  have hk : e.kind = 1 ∨ e.kind = 2 ∨ e.kind = 3 ∨ e.kind = 4 ∨ e.kind = 5 ∨ e.kind = 6 ∨ e.kind = 7 ∨ e.kind = 8 ∨ e.kind = 9 ∨ e.kind = 10 := by omega
  rcases hq with hq | hq | hq | hq | hq <;> rcases hk with hk | hk | hk | hk | hk | hk | hk | hk | hk | hk <;> simp [hq, hk] <;> grind
theorem step_some (s : Session) (e : Evt) (hs : goodS s) (he : goodE e) : Ans (fun r => r.2.length ≤ 1 ∧ goodS r.1) (m42 s e) := by
  obtain ⟨h1, h2, h3, h4, h5, h6, h7, h8, h9, h10⟩ := hs
  obtain ⟨g1, g2, g3, g4⟩ := he
  have e1 : wsub .i64 s.left 1 = s.left - 1 := wsub64 (by omega) (by omega)
  have e2 : wsub .i64 s.quiet 1 = s.quiet - 1 := wsub64 (by omega) (by omega)
  have e3 : wadd .i64 s.ups 1 = s.ups + 1 := wadd64 (by omega) (by omega)
  have q1 : ∀ x : Int, 3 ≤ x → x ≤ 90 → 1 ≤ wquo .i64 x 3 ∧ wquo .i64 x 3 ≤ 30 := by
    intro x hx1 hx2
    have e0 : x.tdiv 3 = x / 3 := Int.tdiv_eq_ediv_of_nonneg (by omega)
    have e : wquo .i64 x 3 = x / 3 := by unfold wquo; rw [e0, w64 (by omega) (by omega)]
    rw [e]; omega
  have q2 := q1 s.hold h3 h4
  have q3 := q1 e.n
  simp only [m42, m42_1, m42_2, m42_3, m42_4, m42_5, m42_6, m42_7, m42_8, m42_9, m42_10, m42_11, m42_12, m49, m60, e1, e2, e3, bnd_ok, sel2_eq, br_ite, bnd_ite, ans_ite, ans_some, eqI_iff, leI_iff, ltI_iff, goodS, List.length_nil, List.length_cons, Nat.zero_le, Nat.le_refl, true_and, Bool.not_eq_true']
  have hq : s.state = 0 ∨ s.state = 1 ∨ s.state = 2 ∨ s.state = 3 ∨ s.state = 4 := by omega
  rcases hq with hq | hq | hq | hq | hq <;> simp [hq] <;> grind
noncomputable def st (s : Session) (e : Evt) : Session × List Int := (m42 s e).getD (s, [])
theorem st_eq (s : Session) (e : Evt) (hs : goodS s) (he : goodE e) : m42 s e = some (st s e) ∧ m44 s e = some (st s e) ∧ (st s e).2.length ≤ 1 ∧ goodS (st s e).1 := by
  obtain ⟨r, h, h1, h2⟩ := step_some s e hs he
  have h' := step s e hs he
  have e0 : st s e = r := by unfold st; rw [h]; rfl
  rw [e0, ← h', h]
  exact ⟨rfl, rfl, h1, h2⟩
noncomputable def run : Session → List Int → List Evt → Option (Session × List Int)
  | s, acc, [] => some (s, acc)
  | s, acc, e :: r => if goodE e then run (st s e).1 (acc ++ (st s e).2) r else none
theorem spec_loop (es : List Evt) (hl : es.length ≤ 100) : ∀ (n k : Nat) (s : Session) (acc : List Int), n + k = es.length → acc.length ≤ k → goodS s →
    loopP (m26_2b es (es.length : Int)) ((k : Int), s, acc) = some (match run s acc (es.drop k) with | some x => .inl x | none => .inr ⟨0, 0, 0, 0, 0⟩) := by
  intro n
  induction n with
  | zero =>
    intro k s acc hk ha hs
    rw [List.drop_eq_nil_of_le (by omega)]
    refine loopP_out ?_
    simp only [m26_2b, sel3, (ltI_not (k : Int) (es.length : Int)).2 (by omega), br_false]
    rfl
  | succ n ih =>
    intro k s acc hk ha hs
    have h : k < es.length := by omega
    rw [List.drop_eq_getElem_cons h, run]
    by_cases he : goodE es[k]
    · obtain ⟨e1, _, e3, e4⟩ := st_eq s es[k] hs he
      rw [if_pos he]
      have hc : acc.length + (st s es[k]).2.length ≤ 4294967296 := by omega
      have hsel : ∀ {γ : Type} (f : Session → List Int → Option γ), sel2 (st s es[k]) f = f (st s es[k]).1 (st s es[k]).2 := fun f => rfl
      rw [← ih (k + 1) (st s es[k]).1 (acc ++ (st s es[k]).2) (by omega) (by simp; omega) e4]
      refine loopP_nxt ?_
      simp only [m26_2b, sel3, (ltI_iff (k : Int) (es.length : Int)).2 (by omega), br_true, idx_get h, bnd_ok, p41, he, decide_true, e1, hsel, ck_ok hc, wsucc h (by omega)]
    · rw [if_neg he]
      refine loopP_out ?_
      simp only [m26_2b, sel3, (ltI_iff (k : Int) (es.length : Int)).2 (by omega), br_true, idx_get h, bnd_ok, p41, he, decide_false, br_false]
theorem impl_loop (es : List Evt) (hl : es.length ≤ 100) (hg : ∀ e ∈ es, goodE e) : ∀ (n k : Nat) (s : Session) (acc : List Int), n + k = es.length → acc.length ≤ k → goodS s →
    ∃ x, run s acc (es.drop k) = some x ∧ x.2.length ≤ es.length ∧ loopP (m28_2b es (es.length : Int)) ((k : Int), s, acc) = some x := by
  intro n
  induction n with
  | zero =>
    intro k s acc hk ha hs
    rw [List.drop_eq_nil_of_le (by omega)]
    refine ⟨_, rfl, by show acc.length ≤ _; omega, loopP_out ?_⟩
    simp only [m28_2b, sel3, (ltI_not (k : Int) (es.length : Int)).2 (by omega), br_false]
  | succ n ih =>
    intro k s acc hk ha hs
    have h : k < es.length := by omega
    have he := hg es[k] (List.getElem_mem h)
    rw [List.drop_eq_getElem_cons h, run, if_pos he]
    obtain ⟨_, e1, e3, e4⟩ := st_eq s es[k] hs he
    have hc : acc.length + (st s es[k]).2.length ≤ 4294967296 := by omega
    have hsel : ∀ {γ : Type} (f : Session → List Int → Option γ), sel2 (st s es[k]) f = f (st s es[k]).1 (st s es[k]).2 := fun f => rfl
    obtain ⟨x, x1, x2, x3⟩ := ih (k + 1) (st s es[k]).1 (acc ++ (st s es[k]).2) (by omega) (by simp; omega) e4
    refine ⟨x, x1, x2, ?_⟩
    rw [← x3]
    refine loopP_nxt ?_
    simp only [m28_2b, sel3, (ltI_iff (k : Int) (es.length : Int)).2 (by omega), br_true, idx_get h, bnd_ok, e1, hsel, ck_ok hc, wsucc h (by omega)]
theorem run_bad (es : List Evt) : ∀ (s : Session) (acc : List Int), (∃ e ∈ es, ¬ goodE e) → run s acc es = none := by
  induction es with
  | nil => rintro s acc ⟨e, he, _⟩; cases he
  | cons e r ih =>
    rintro s acc ⟨x, hx, hb⟩
    rw [run]
    by_cases he : goodE e
    · rw [if_pos he]
      refine ih _ _ ?_
      rcases List.mem_cons.1 hx with rfl | hx
      · exact absurd he hb
      · exact ⟨x, hx, hb⟩
    · rw [if_neg he]
theorem p45 (es : List Evt) (hl : es.length ≤ 100) : m45 es (fun y0 => m46 y0) = some (es.any fun e => !decide (goodE e)) := by
  simp only [m45, m63, indexFunc (body := m63_1b es (es.length : Int) (fun y0 => m46 y0)) (f := fun y0 => m46 y0) es (fun e => !decide (goodE e)) (fun x _ => by simp only [m46, p43, bnd_ok]) (by omega) (fun s => rfl), bnd_ok, containsFunc]
theorem p11 (a : Int) : m11 a = some (if 3 ≤ a ∧ a ≤ 90 then (⟨0, a, 0, 0, 0⟩, true) else (⟨0, 0, 0, 0, 0⟩, false)) ∧ m12 a = some (if 3 ≤ a ∧ a ≤ 90 then (⟨0, a, 0, 0, 0⟩, true) else (⟨0, 0, 0, 0, 0⟩, false)) := by
  simp only [m11, m12, m39, m39_1, m40, m40_1, bnd_ok, br_and]
  by_cases h : 3 ≤ a ∧ a ≤ 90
  · rw [(leI_iff _ _).2 h.1, (leI_iff _ _).2 h.2, if_pos h]; exact ⟨rfl, rfl⟩
  · have : (leI 3 a && leI a 90) = false := by
      by_cases h1 : 3 ≤ a
      · rw [(leI_not a 90).2 (by omega), Bool.and_false]
      · rw [(leI_not 3 a).2 (by omega), Bool.false_and]
    rw [this, if_neg h]; exact ⟨rfl, rfl⟩
theorem good0 (a : Int) (h : 3 ≤ a ∧ a ≤ 90) : goodS ⟨0, a, 0, 0, 0⟩ := by unfold goodS; simp; omega
theorem same (a : Int) (es : List Evt) : ∃ x y z, m26 a es = some (x, y, z) ∧ m28 a es = some (x, y, z) ∧ y.length ≤ 100 ∧ (z = true → (3 ≤ a ∧ a ≤ 90) ∧ es.length ≤ 100 ∧ run ⟨0, a, 0, 0, 0⟩ [] es = some (x, y)) := by
  obtain ⟨e1, e2⟩ := p11 a
  simp only [m26, m28, e1, e2, bnd_ok, m26_1, m28_1]
  by_cases ha : 3 ≤ a ∧ a ≤ 90
  · simp only [if_pos ha, sel2_ok]
    by_cases hl : es.length ≤ 100
    · have hn : ltI 100 (es.length : Int) = false := (ltI_not _ _).2 (by omega)
      have hs := spec_loop es hl es.length 0 ⟨0, a, 0, 0, 0⟩ [] (by omega) (Nat.le_refl _) (good0 a ha)
      rw [List.drop_zero] at hs
      have hs' : loopP (m26_2b es (es.length : Int)) (0, ⟨0, a, 0, 0, 0⟩, []) = _ := hs
      by_cases hb : ∃ e ∈ es, ¬ goodE e
      · have hi0 : (es.any fun e => !decide (goodE e)) = true := by obtain ⟨e, he, hn⟩ := hb; exact List.any_eq_true.2 ⟨e, he, by simp [hn]⟩
        rw [run_bad es _ [] hb] at hs'
        simp only [br_true, br_false, hn, bnd_ok, hs', selS_inr, p45 es hl, hi0]
        exact ⟨_, _, _, rfl, rfl, by simp, fun h => by cases h⟩
      · have hi0 : (es.any fun e => !decide (goodE e)) = false := by cases h : (es.any fun e => !decide (goodE e)) with | false => rfl | true => (obtain ⟨e, he, hn⟩ := List.any_eq_true.1 h; exact absurd ⟨e, he, by simpa using hn⟩ hb)
        obtain ⟨⟨y, t⟩, y1, y2, y3⟩ := impl_loop es hl (fun e he => Classical.byContradiction fun hn => hb ⟨e, he, hn⟩) es.length 0 ⟨0, a, 0, 0, 0⟩ [] (by omega) (Nat.le_refl _) (good0 a ha)
        rw [List.drop_zero] at y1
        rw [y1] at hs'
        have y3' : loopP (m28_2b es (es.length : Int)) (0, ⟨0, a, 0, 0, 0⟩, []) = _ := y3
        simp only [br_true, br_false, hn, bnd_ok, hs', selS_inl, p45 es hl, hi0, y3', sel2_ok]
        exact ⟨_, _, _, rfl, rfl, by simp only at y2; omega, fun _ => ⟨ha, hl, y1⟩⟩
    · have hn : ltI 100 (es.length : Int) = true := (ltI_iff _ _).2 (by omega)
      simp only [hn, br_true, bnd_ok]
      exact ⟨_, _, _, rfl, rfl, by simp, fun h => by cases h⟩
  · simp only [if_neg ha, sel2_ok, br_false, br_true, bnd_ok]
    exact ⟨_, _, _, rfl, rfl, by simp, fun h => by cases h⟩
/-! ### How often one came up -/
def cnt (k : Int) : List Evt → Int
  | [] => 0
  | e :: r => (if e.kind = k then 1 else 0) + cnt k r
theorem cnt_le (k : Int) : ∀ l : List Evt, 0 ≤ cnt k l ∧ cnt k l ≤ l.length := by
  intro l
  induction l with
  | nil => simp [cnt]
  | cons e r ih => simp only [cnt, List.length_cons]; split <;> omega
def U (s : Session) (o v : Int) : Prop := (s.state = 3 → s.ups + 1 ≤ o) ∧ s.ups ≤ o ∧ s.ups ≤ v ∧ (s.state = 4 → 1 ≤ s.ups)
theorem step_U (s : Session) (e : Evt) (o v a : Int) (hs : goodS s) (he : goodE e) (hu : U s o v) (ha : s.hold ≤ a) :
    Ans (fun r => U r.1 (o + if e.kind = 5 then 1 else 0) (v + if e.kind = 7 then 1 else 0) ∧ r.1.hold ≤ a) (m42 s e) := by
  obtain ⟨h1, h2, h3, h4, h5, h6, h7, h8, h9, h10⟩ := hs
  obtain ⟨g1, g2, g3, g4⟩ := he
  obtain ⟨u1, u2, u3, u4⟩ := hu
  have e3 : wadd .i64 s.ups 1 = s.ups + 1 := wadd64 (by omega) (by omega)
  simp only [m42, m42_1, m42_2, m42_3, m42_4, m42_5, m42_6, m42_7, m42_8, m42_9, m42_10, m42_11, m42_12, m49, m60, e3, bnd_ok, sel2_eq, br_ite, bnd_ite, ans_ite, ans_some, eqI_iff, leI_iff, ltI_iff, U, Bool.not_eq_true']
  have hq : s.state = 0 ∨ s.state = 1 ∨ s.state = 2 ∨ s.state = 3 ∨ s.state = 4 := by omega
  have hk : e.kind = 1 ∨ e.kind = 2 ∨ e.kind = 3 ∨ e.kind = 4 ∨ e.kind = 5 ∨ e.kind = 6 ∨ e.kind = 7 ∨ e.kind = 8 ∨ e.kind = 9 ∨ e.kind = 10 := by omega
  rcases hq with hq | hq | hq | hq | hq <;> rcases hk with hk | hk | hk | hk | hk | hk | hk | hk | hk | hk <;> simp [hq, hk] <;> first | omega | grind
theorem run_U (a : Int) : ∀ (l : List Evt) (s : Session) (acc : List Int) (o v : Int) (x : Session × List Int), goodS s → U s o v → s.hold ≤ a → run s acc l = some x → goodS x.1 ∧ U x.1 (o + cnt 5 l) (v + cnt 7 l) ∧ x.1.hold ≤ a := by
  intro l
  induction l with
  | nil => intro s acc o v x hs hu ha h; simp only [run, Option.some.injEq] at h; subst h; simpa [cnt] using ⟨hs, hu, ha⟩
  | cons e r ih =>
    intro s acc o v x hs hu ha h
    rw [run] at h
    split at h
    · rename_i he
      obtain ⟨y, y1, y2, y3⟩ := step_U s e o v a hs he hu ha
      have e0 : st s e = y := by unfold st; rw [y1]; rfl
      rw [← e0] at y2 y3
      have := ih _ _ _ _ x (st_eq s e hs he).2.2.2 y2 y3 h
      simpa only [cnt, Int.add_assoc] using this
    · cases h
theorem counts (es : List Evt) (hl : es.length ≤ 100) : ∀ (n k : Nat) (o v : Int), n + k = es.length → 0 ≤ o → o ≤ k → 0 ≤ v → v ≤ k → loopP (m10_3b (es.length : Int) es) (o, v, (k : Int)) = some (o + cnt 5 (es.drop k), v + cnt 7 (es.drop k)) := by
  intro n
  induction n with
  | zero =>
    intro k o v hk h1 h2 h3 h4
    rw [List.drop_eq_nil_of_le (by omega)]
    refine loopP_out ?_
    simp only [m10_3b, sel3, (ltI_not (k : Int) (es.length : Int)).2 (by omega), br_false, cnt, Int.add_zero]
  | succ n ih =>
    intro k o v hk h1 h2 h3 h4
    have h : k < es.length := by omega
    rw [List.drop_eq_getElem_cons h]
    simp only [cnt]
    have hw := wsucc h (by omega)
    have eo : wadd .i64 o 1 = o + 1 := wadd64 (by omega) (by omega)
    have ev : wadd .i64 v 1 = v + 1 := wadd64 (by omega) (by omega)
    by_cases c5 : es[k].kind = 5
    · rw [if_pos c5, if_neg (by omega), loopP_nxt (s' := (o + 1, v, ((k + 1 : Nat) : Int)))]
      · rw [ih (k + 1) (o + 1) v (by omega) (by omega) (by omega) (by omega) (by omega), Int.add_assoc, Int.zero_add]
      · simp only [m10_3b, sel3, (ltI_iff (k : Int) (es.length : Int)).2 (by omega), br_true, idx_get h, bnd_ok, m10_6, (eqI_iff _ _).2 c5, eo, hw, sel2]
    · rw [if_neg c5]
      by_cases c7 : es[k].kind = 7
      · rw [if_pos c7, loopP_nxt (s' := (o, v + 1, ((k + 1 : Nat) : Int)))]
        · rw [ih (k + 1) o (v + 1) (by omega) (by omega) (by omega) (by omega) (by omega), Int.add_assoc, Int.zero_add]
        · simp only [m10_3b, sel3, (ltI_iff (k : Int) (es.length : Int)).2 (by omega), br_true, br_false, idx_get h, bnd_ok, m10_6, m10_7, (eqI_not _ _).2 c5, (eqI_iff _ _).2 c7, ev, hw, sel2]
      · rw [if_neg c7, loopP_nxt (s' := (o, v, ((k + 1 : Nat) : Int)))]
        · rw [ih (k + 1) o v (by omega) (by omega) (by omega) (by omega) (by omega), Int.zero_add, Int.zero_add]
        · simp only [m10_3b, sel3, (ltI_iff (k : Int) (es.length : Int)).2 (by omega), br_true, br_false, idx_get h, bnd_ok, m10_6, m10_7, (eqI_not _ _).2 c5, (eqI_not _ _).2 c7, hw, sel2]
/-! ### Nothing more is heard -/
theorem good10 : goodE ⟨10, 0⟩ := by unfold goodE; simp
theorem step_tick (s : Session) (hs : goodS s) (h2 : 2 ≤ s.state) : Ans (fun r => (s.left = 1 → r.1.state = 0) ∧ (1 < s.left → 2 ≤ r.1.state ∧ r.1.left = s.left - 1)) (m42 s ⟨10, 0⟩) := by
  obtain ⟨h1, h2', h3, h4, h5, h6, h7, h8, h9, h10⟩ := hs
  have e1 : wsub .i64 s.left 1 = s.left - 1 := wsub64 (by omega) (by omega)
  have e2 : wsub .i64 s.quiet 1 = s.quiet - 1 := wsub64 (by omega) (by omega)
  simp only [m42, m49, m60, e1, e2, bnd_ok, sel2_eq, br_ite, bnd_ite, ans_ite, ans_some, eqI_iff, leI_iff, ltI_iff]
  have hq : s.state = 2 ∨ s.state = 3 ∨ s.state = 4 := by omega
  rcases hq with hq | hq | hq <;> simp [hq] <;> grind
theorem p21 (s : Session) (e : Evt) (hs : goodS s) (he : goodE e) : m21 s e = some ((st s e).1, (st s e).2, true) := by
  have hsel : ∀ {γ : Type} (f : Session → List Int → Option γ), sel2 (st s e) f = f (st s e).1 (st s e).2 := fun f => rfl
  simp only [m21, m21_1, p16, p43, hs, he, decide_true, bnd_ok, br_true, Bool.not_true, br_false, (st_eq s e hs he).2.1, hsel]
theorem silent (s : Session) (hl : s.left ≤ 90) : ∀ (n k : Nat) (x : Session), (n : Int) + k = s.left → 1 ≤ n → goodS x → 2 ≤ x.state → x.left = s.left - k → ∃ y, loopP (m10_9b s) ((k : Int), x) = some (.inl y) ∧ y.state = 0 := by
  intro n
  induction n with
  | zero => intro k x _ h; omega
  | succ n ih =>
    intro k x hk _ hx h2 hxl
    obtain ⟨r, r1, r2, r3⟩ := step_tick x hx h2
    have e0 : st x ⟨10, 0⟩ = r := by unfold st; rw [r1]; rfl
    rw [← e0] at r2 r3
    have hg := (st_eq x ⟨10, 0⟩ hx good10).2.2.2
    have ew : wadd .i64 (k : Int) 1 = ((k + 1 : Nat) : Int) := by rw [wadd64 (by omega) (by omega)]; omega
    rw [loopP_nxt (s' := (((k + 1 : Nat) : Int), (st x ⟨10, 0⟩).1))]
    · by_cases hn : n = 0
      · refine ⟨(st x ⟨10, 0⟩).1, loopP_out ?_, r2 (by omega)⟩
        simp only [m10_9b, sel2, (ltI_not ((k + 1 : Nat) : Int) s.left).2 (by omega), br_false]
      · exact ih (k + 1) _ (by omega) (by omega) hg (r3 (by omega)).1 (by rw [(r3 (by omega)).2]; omega)
    · simp only [m10_9b, sel2, (ltI_iff (k : Int) s.left).2 (by omega), br_true, p21 x ⟨10, 0⟩ hx good10, bnd_ok, sel3, ew]
/-! ### What is drawn -/
theorem dEvents (code : List Int) (a s : Int) (h0 : 0 ≤ a) (h1 : a ≤ 1000) (hb : ∀ y ∈ code, 0 ≤ y ∧ y ≤ 255) : Ans (fun r => 0 ≤ r.1 ∧ r.1 ≤ 3000) (m58 ⟨code, a, s⟩) := by
  unfold m58
  refine ans_bnd (cOne code a s 6 h0 (by omega) hb) fun r hr => ?_
  obtain ⟨o1, a1, s1⟩ := r
  simp only [sel3_ok] at hr ⊢
  have k1 : Ans (fun l : List Evt => l.length ≤ 2) (m58_1 (!o1)) := by
    unfold m58_1; rw [ans_br]; exact ⟨fun _ => (ans_some _ _).2 (by simp), fun _ => (ans_some _ _).2 (by simp)⟩
  refine ans_bnd k1 fun l1 hl1 => ?_
  refine ans_bnd (cOne code a1 s1 2 (by omega) (by omega) hb) fun r hr2 => ?_
  obtain ⟨o2, a2, s2⟩ := r
  simp only [sel3_ok] at hr2 ⊢
  have k2 : Ans (fun r => 0 ≤ r.1 ∧ r.1 ≤ a + 6 ∧ r.2.2.length ≤ 4) (m58_2 o2 ⟨code, a, s⟩ a2 s2 l1) := by
    unfold m58_2
    rw [ans_br]
    refine ⟨fun _ => ?_, fun _ => (ans_some _ _).2 (by simp only []; omega)⟩
    refine ans_bnd (cPick code a2 s2 20 (by omega) (by omega) hb) fun r hr => ?_
    obtain ⟨x, b, t⟩ := r
    simp only [sel3_ok] at hr ⊢
    rw [ck_ok (show l1.length + 2 ≤ 4294967296 by omega), ans_some]
    simp only [List.length_append, List.length_cons, List.length_nil]; omega
  refine ans_bnd k2 fun r hr3 => ?_
  obtain ⟨a3, s3, l3⟩ := r
  simp only [sel3_ok] at hr3 ⊢
  refine ans_bnd (cPick code a3 s3 20 (by omega) (by omega) hb) fun r hr4 => ?_
  obtain ⟨n, a4, s4⟩ := r
  simp only [sel3_ok] at hr4 ⊢
  refine ans_bnd (cOne code a4 s4 20 (by omega) (by omega) hb) fun r hr5 => ?_
  obtain ⟨o5, a5, s5⟩ := r
  simp only [sel3_ok] at hr5 ⊢
  have k3 : Ans (fun r => 0 ≤ r.1 ∧ r.1 ≤ 100 ∧ 0 ≤ r.2.1 ∧ r.2.1 ≤ a + 12) (m58_3 n o5 ⟨code, a, s⟩ a5 s5) := by
    unfold m58_3
    rw [ans_br]
    refine ⟨fun _ => ?_, fun _ => (ans_some _ _).2 (by simp only []; omega)⟩
    refine ans_bnd (cPick code a5 s5 3 (by omega) (by omega) hb) fun r hr => ?_
    obtain ⟨x, b, t⟩ := r
    simp only [sel3_ok] at hr ⊢
    rw [ans_some]
    have e : wadd .i64 98 x = 98 + x := wadd64 (by omega) (by omega)
    simp only [e]
    omega
  refine ans_bnd k3 fun r hr6 => ?_
  obtain ⟨m, a6, s6⟩ := r
  simp only [sel3_ok] at hr6 ⊢
  have hloop : ∀ (k : Nat) (at_ seed : Int) (l : List Evt), k ≤ 100 → l.length + k ≤ 1000 → 0 ≤ at_ → at_ ≤ 3000 - 10 * k →
      Ans (fun r => 0 ≤ r.1 ∧ r.1 ≤ 3000) (loopP (m58_4b ⟨code, a, s⟩) ((k : Int), at_, seed, l)) := by
    intro k
    induction k with
    | zero =>
      intro at_ seed l hk hl h0 h1
      refine ⟨_, loopP_out (b := (at_, seed, l)) (by simp only [m58_4b, sel4]; rw [(ltI_not _ _).2 (by omega), br_false]), h0, by simp only []; omega⟩
    | succ k ih =>
      intro at_ seed l hk hl h0 h1
      obtain ⟨⟨x, a', s'⟩, e, hr⟩ := cAmong code at_ seed [1, 3, 5, 7, 7, 7, 8, 8, 10, 10, 10, 10] h0 (by omega) hb (by simp)
      simp only at hr
      obtain ⟨⟨o, a2, s2⟩, e2, hr2⟩ := cOne code a' s' 12 (by omega) (by omega) hb
      simp only at hr2
      have e3 : Ans (fun r => 0 ≤ r.1 ∧ r.1 ≤ at_ + 6) (m58_7 o ⟨code, a, s⟩ a2 s2 ⟨x, 0⟩) := by
        unfold m58_7
        rw [ans_br]
        refine ⟨fun _ => ?_, fun _ => (ans_some _ _).2 (by simp only []; omega)⟩
        refine ans_bnd (cPick code a2 s2 10 (by omega) (by omega) hb) fun r hr => ?_
        obtain ⟨x, b, t⟩ := r
        simp only [sel3_ok] at hr ⊢
        rw [ans_some]; simp only []; omega
      obtain ⟨⟨a3, s3, v3⟩, e3, hr3⟩ := e3
      simp only at hr3
      have e4 : Ans (fun r => 0 ≤ r.1 ∧ r.1 ≤ at_ + 8) (m58_8 (eqI v3.kind 5) ⟨code, a, s⟩ a3 s3 v3) := by
        unfold m58_8
        rw [ans_br]
        refine ⟨fun _ => ?_, fun _ => (ans_some _ _).2 (by simp only []; omega)⟩
        refine ans_bnd (cAmong code a3 s3 [0, 2, 3, 9, 90, 100, 101] (by omega) (by omega) hb (by simp)) fun r hr => ?_
        obtain ⟨x, b, t⟩ := r
        simp only [sel3_ok] at hr ⊢
        rw [ans_some]; simp only []; omega
      obtain ⟨⟨a4, s4, v4⟩, e4, hr4⟩ := e4
      simp only at hr4
      have ek : wsub .i64 ((k + 1 : Nat) : Int) 1 = (k : Int) := by rw [wsub64 (by omega) (by omega)]; omega
      rw [loopP_nxt (s' := ((k : Int), a4, s4, l ++ [v4]))]
      · exact ih a4 s4 (l ++ [v4]) (by omega) (by simp; omega) (by omega) (by omega)
      · simp only [m58_4b, sel4, (ltI_iff 0 ((k + 1 : Nat) : Int)).2 (by omega), br_true, e, e2, e3, e4, bnd_ok, sel3_ok, ck_ok (show l.length + 1 ≤ 4294967296 by omega), ek]
  obtain ⟨k, rfl⟩ := Int.eq_ofNat_of_zero_le hr6.1
  refine ans_bnd (hloop k a6 s6 l3 (by omega) (by omega) hr6.2.2.1 (by omega)) fun r hr7 => ?_
  obtain ⟨a7, s7, l⟩ := r
  simp only [sel3_ok] at hr7 ⊢
  exact (ans_some _ _).2 hr7
theorem dPlay (code : List Int) (hb : ∀ y ∈ code, 0 ≤ y ∧ y ≤ 255) : Ans (fun r => True) (m35 code) := by
  unfold m35
  refine ans_bnd (cAmong code 0 0 [2, 3, 9, 9, 90] (by omega) (by omega) hb (by simp)) fun r hr => ?_
  obtain ⟨x, a1, s1⟩ := r
  simp only [sel3_ok] at hr ⊢
  refine ans_bnd (dEvents code a1 s1 (by omega) (by omega) hb) fun r hr => ?_
  exact (ans_some _ _).2 trivial
theorem dSession (code : List Int) (hb : ∀ y ∈ code, 0 ≤ y ∧ y ≤ 255) : Ans (fun r => 0 ≤ r.1 ∧ r.1 ≤ 3100) (m59 ⟨code, 0, 0⟩) := by
  unfold m59
  refine ans_bnd (dEvents code 0 0 (by omega) (by omega) hb) fun r hr => ?_
  obtain ⟨a1, s1, l⟩ := r
  simp only [sel3_ok] at hr ⊢
  have k1 : Ans (fun l : List Evt => True) (m59_1 (ltI 60 (l.length : Int)) l) := by
    unfold m59_1
    rw [ans_br]
    refine ⟨fun h => ?_, fun _ => (ans_some _ _).2 trivial⟩
    have := (ltI_iff _ _).1 h
    rw [ck_ok ⟨by omega, by omega⟩]; exact (ans_some _ _).2 trivial
  refine ans_bnd k1 fun l1 _ => ?_
  refine ans_bnd (cPick code a1 s1 20 (by omega) (by omega) hb) fun r hr2 => ?_
  obtain ⟨x, a2, s2⟩ := r
  simp only [sel3_ok] at hr2 ⊢
  obtain ⟨y, t, z, e1, _⟩ := same (wadd .i64 3 x) l1
  rw [e1, bnd_ok, sel3_ok]
  have k2 : Ans (fun s : Session => True) (m59_2 (!z) y) := by
    unfold m59_2
    rw [ans_br]
    refine ⟨fun h => ?_, fun _ => (ans_some _ _).2 trivial⟩
    rw [(p11 9).1, bnd_ok]; exact (ans_some _ _).2 trivial
  refine ans_bnd k2 fun u _ => ?_
  refine ans_bnd (cPick code a2 s2 30 (by omega) (by omega) hb) fun r hr3 => ?_
  obtain ⟨n, a3, s3⟩ := r
  simp only [sel3_ok] at hr3 ⊢
  have k3 : Ans (fun r => 0 ≤ r.1 ∧ r.1 ≤ 3100) (m59_3 n (eqI n 0) ⟨code, 0, 0⟩ a3 s3 u) := by
    unfold m59_3
    rw [ans_br]
    refine ⟨fun _ => ?_, fun _ => ?_⟩
    · refine ans_bnd (cPick code a3 s3 6 (by omega) (by omega) hb) fun r hr => ?_
      obtain ⟨x, b, t⟩ := r
      simp only [sel3_ok] at hr ⊢
      rw [ans_some]; simp only []; omega
    · have k4 : Ans (fun r => 0 ≤ r.1 ∧ r.1 ≤ 3100) (m59_4 (eqI n 1) ⟨code, 0, 0⟩ a3 s3 u) := by
        unfold m59_4
        rw [ans_br]
        refine ⟨fun _ => ?_, fun _ => (ans_some _ _).2 (by simp only []; omega)⟩
        refine ans_bnd (cAmong code a3 s3 [0, 1, 91] (by omega) (by omega) hb (by simp)) fun r hr => ?_
        obtain ⟨x, b, t⟩ := r
        simp only [sel3_ok] at hr ⊢
        rw [ans_some]; simp only []; omega
      refine ans_bnd k4 fun r hr => ?_
      obtain ⟨x, b, t⟩ := r
      exact (ans_some _ _).2 hr
  refine ans_bnd k3 fun r hr4 => ?_
  obtain ⟨x, b, t⟩ := r
  exact (ans_some _ _).2 hr4
theorem dStep (code : List Int) (hb : ∀ y ∈ code, 0 ≤ y ∧ y ≤ 255) : Ans (fun r => True) (m37 code) := by
  unfold m37
  refine ans_bnd (dSession code hb) fun r hr => ?_
  obtain ⟨a1, s1, u⟩ := r
  simp only [sel3_ok] at hr ⊢
  refine ans_bnd (cPick code a1 s1 12 (by omega) (by omega) hb) fun r hr2 => ?_
  obtain ⟨x, a2, s2⟩ := r
  simp only [sel3_ok] at hr2 ⊢
  have k1 : Ans (fun e : Evt => True) (m37_1 (eqI x 5) code a2 s2 ⟨x, 0⟩) := by
    unfold m37_1
    rw [ans_br]
    refine ⟨fun _ => ?_, fun _ => (ans_some _ _).2 trivial⟩
    refine ans_bnd (cAmong code a2 s2 [0, 2, 3, 9, 100, 101] (by omega) (by omega) hb (by simp)) fun r hr => ?_
    exact (ans_some _ _).2 trivial
  exact ans_bnd k1 fun e _ => (ans_some _ _).2 trivial
theorem dNew (code : List Int) (hb : ∀ y ∈ code, 0 ≤ y ∧ y ≤ 255) : Ans (fun r => True) (m38 code) := by
  unfold m38
  refine ans_bnd (cAmong code 0 0 [2, 3, 9, 90, 91] (by omega) (by omega) hb (by simp)) fun r hr => ?_
  exact (ans_some _ _).2 trivial
theorem p36 (y : List Int) (h : y.length ≤ 100) : m36 y y = some true := eq_flat eqI eqI_self y (by omega) (fun s => rfl)
theorem stepSame (a : Session) (b : Evt) : ∃ x y z, m19 a b = some (x, y, z) ∧ m21 a b = some (x, y, z) ∧ y.length ≤ 1 ∧ (z = true → goodS x) := by
  simp only [m19, m21, m19_1, m21_1, p14, p16, p41, p43, bnd_ok]
  by_cases hs : goodS a
  · by_cases he : goodE b
    · obtain ⟨e1, e2, h1, h2⟩ := st_eq a b hs he
      have hsel : ∀ {γ : Type} (f : Session → List Int → Option γ), sel2 (st a b) f = f (st a b).1 (st a b).2 := fun f => rfl
      simp only [hs, he, decide_true, br_true, bnd_ok, Bool.not_true, br_false, e1, e2, hsel]
      exact ⟨_, _, _, rfl, rfl, h1, fun _ => h2⟩
    · simp only [hs, he, decide_true, decide_false, br_true, bnd_ok, Bool.not_false]
      exact ⟨_, _, _, rfl, rfl, by simp, fun h => by cases h⟩
  · simp only [hs, decide_false, br_false, bnd_ok, br_true]
    exact ⟨_, _, _, rfl, rfl, by simp, fun h => by cases h⟩
theorem part1 (a : Int) (es : List Evt) (x : Session) (y : List Int) (z : Bool) (h : z = true → (3 ≤ a ∧ a ≤ 90) ∧ es.length ≤ 100 ∧ run ⟨0, a, 0, 0, 0⟩ [] es = some (x, y)) : m10_2 a z es x = some (.inl ()) := by
  cases z with
  | false => rfl
  | true =>
    obtain ⟨ha, hl, hr⟩ := h rfl
    obtain ⟨g, u, hh⟩ := run_U a es _ _ 0 0 _ (good0 a ha) (by simp [U]) (by simp) hr
    simp only [Int.zero_add] at g u hh
    obtain ⟨u1, u2, u3, u4⟩ := u
    have hc := counts es hl es.length 0 0 0 (by omega) (by omega) (by omega) (by omega) (by omega)
    rw [List.drop_zero, Int.zero_add, Int.zero_add] at hc
    have hc' : loopP (m10_3b (es.length : Int) es) (0, 0, 0) = some (cnt 5 es, cnt 7 es) := hc
    have e8 : m10_8 a (cnt 5 es) (cnt 7 es) (eqI x.state 4) true x = some false := by
      simp only [m10_8, p16, g, decide_true, bnd_ok, br_true, (ltI_not (cnt 5 es) x.ups).2 (by omega), (ltI_not (cnt 7 es) x.ups).2 (by omega), br_false, (ltI_not a x.hold).2 (by omega)]
      by_cases c : x.state = 4
      · have := u4 c
        rw [(eqI_iff _ _).2 c, (eqI_not x.ups 0).2 (by omega)]; rfl
      · rw [(eqI_not _ _).2 c]; rfl
    obtain ⟨h1, h2', h3, h4, h5, h6, h7, h8, h9, h10⟩ := g
    have hloop : ∃ v, loopP (m10_9b x) (0, x) = some (.inl v) ∧ (2 ≤ x.state → v.state = 0) := by
      by_cases c : 2 ≤ x.state
      · have := h8 c
        obtain ⟨v, v1, v2⟩ := silent x (by omega) x.left.toNat 0 x (by omega) (by omega) ⟨h1, h2', h3, h4, h5, h6, h7, h8, h9, h10⟩ c (by omega)
        exact ⟨v, v1, fun _ => v2⟩
      · refine ⟨x, loopP_out ?_, fun h => absurd h c⟩
        simp only [m10_9b, sel2, (ltI_not 0 x.left).2 (by have := h7 (by omega); omega), br_false]
    obtain ⟨v, v1, v2⟩ := hloop
    have e10 : m10_10 x v = some false := by
      unfold m10_10
      by_cases c : 2 ≤ x.state
      · rw [(leI_iff _ _).2 c, br_true, (eqI_iff _ _).2 (v2 c)]; rfl
      · rw [(leI_not _ _).2 (by omega), br_false]
    have g' : goodS x := ⟨h1, h2', h3, h4, h5, h6, h7, h8, h9, h10⟩
    simp only [m10_2, br_true, hc', bnd_ok, sel2_ok, m18, p16, g', decide_true, e8, br_false, v1, selS_inl, e10]
theorem law (a b : List Int) (ha : wfLIntu8 a) (hb : wfLIntu8 b) : m10 a b = some true := by
  unfold m10
  cases hl : ltI 1048576 (wadd .i64 (a.length : Int) (b.length : Int)) with
  | true => rfl
  | false =>
    rw [br_false]
    obtain ⟨⟨h, l⟩, e, _⟩ := dPlay a (fun y hy => ha.2 y hy)
    obtain ⟨x, y, z, e1, e2, hy, hz⟩ := same h l
    obtain ⟨⟨t, ev⟩, e3, _⟩ := dStep b (fun y hy => hb.2 y hy)
    obtain ⟨x', y', z', e4, e5, hy', hz'⟩ := stepSame t ev
    obtain ⟨n, e6, _⟩ := dNew b (fun y hy => hb.2 y hy)
    obtain ⟨e7, e8⟩ := p11 n
    have hlast : m10_12 z' x' = some true := by
      cases z' with
      | false => rfl
      | true => simp only [m10_12, br_true, p16, hz' rfl, decide_true, bnd_ok]
    generalize hn : (if 3 ≤ n ∧ n ≤ 90 then ((⟨0, n, 0, 0, 0⟩ : Session), true) else (⟨0, 0, 0, 0, 0⟩, false)) = nn at e7 e8
    obtain ⟨n1, n2⟩ := nn
    simp only [e, bnd_ok, sel2_ok, e1, e2, sel3_ok, m10_1, eqB_self, br_true, eqI_self, Bool.and_self, p36 y hy, Bool.not_true, br_false, part1 h l x y z hz, selS_inl, e3, e4, e5, e6, e7, e8, m10_11, p36 y' (by omega), p14, p16, hlast]
end Go.Pi.Ytcihklkihglmjaa.FnSession
