/- What functions of the program answer, and that the law answers true at every input; no condition -/
import Derived.Test.YtcihklkihglmjaaPairStdPair
set_option linter.all false
/- Pair: two that are up have agreed on the lesser of what both asked for. -/
namespace Go.Pi.Ytcihklkihglmjaa.Pair
open Go Go.Pi
set_option linter.all false
def goodS (s : Session) : Prop := 0 ≤ s.state ∧ s.state ≤ 4 ∧ 3 ≤ s.hold ∧ s.hold ≤ 90 ∧ 0 ≤ s.ups ∧ s.ups ≤ 1000 ∧ (s.state < 2 → s.left = 0) ∧ (2 ≤ s.state → 1 ≤ s.left ∧ s.left ≤ 90) ∧ (s.state < 3 → s.quiet = 0) ∧ (3 ≤ s.state → 1 ≤ s.quiet ∧ s.quiet ≤ 30)
def goodE (e : Evt) : Prop := 1 ≤ e.kind ∧ e.kind ≤ 10 ∧ (e.kind = 5 → 0 ≤ e.n ∧ e.n ≤ 100) ∧ (e.kind ≠ 5 → e.n = 0)
theorem step (s : Session) (e : Evt) (hs : goodS s) (he : goodE e) : m42 s e = m44 s e := by
  obtain ⟨h1, h2, h3, h4, h5, h6, h7, h8, h9, h10⟩ := hs
  obtain ⟨g1, g2, g3, g4⟩ := he
  have e1 : wsub .i64 s.left 1 = s.left - 1 := wsub64 (by omega) (by omega)
  have e2 : wsub .i64 s.quiet 1 = s.quiet - 1 := wsub64 (by omega) (by omega)
  have e3 : wadd .i64 s.ups 1 = s.ups + 1 := wadd64 (by omega) (by omega)
  simp only [m42, m44, m42_1, m42_2, m42_3, m42_4, m42_5, m42_6, m42_7, m42_8, m42_9, m42_10, m42_11, m42_12, m49, m60, m61, m62, m44_1, m44_2, m44_3, m44_4, m44_5, m44_6, e1, e2, e3, bnd_ok, sel2_eq, br_ite, bnd_ite, eqI_iff, leI_iff, ltI_iff, wmin, eqI, leI, ltI]
  have hq : s.state = 0 ∨ s.state = 1 ∨ s.state = 2 ∨ s.state = 3 ∨ s.state = 4 := by omega
  have hk : e.kind = 1 ∨ e.kind = 2 ∨ e.kind = 3 ∨ e.kind = 4 ∨ e.kind = 5 ∨ e.kind = 6 ∨ e.kind = 7 ∨ e.kind = 8 ∨ e.kind = 9 ∨ e.kind = 10 := by omega
  rcases hq with hq | hq | hq | hq | hq <;> rcases hk with hk | hk | hk | hk | hk | hk | hk | hk | hk | hk <;> simp [hq, hk] <;> grind
theorem step_some (s : Session) (e : Evt) (hs : goodS s) (he : goodE e) : Ans (fun r => r.2.length ≤ 1 ∧ goodS r.1 ∧ (r.2 = [] ∨ r.2 = [1] ∨ r.2 = [3] ∨ r.2 = [4])) (m42 s e) := by
  obtain ⟨h1, h2, h3, h4, h5, h6, h7, h8, h9, h10⟩ := hs
  obtain ⟨g1, g2, g3, g4⟩ := he
  have e1 : wsub .i64 s.left 1 = s.left - 1 := wsub64 (by omega) (by omega)
  have e2 : wsub .i64 s.quiet 1 = s.quiet - 1 := wsub64 (by omega) (by omega)
  have e3 : wadd .i64 s.ups 1 = s.ups + 1 := wadd64 (by omega) (by omega)
  have q1 : ∀ x : Int, 3 ≤ x → x ≤ 90 → 1 ≤ wquo .i64 x 3 ∧ wquo .i64 x 3 ≤ 30 := by
    intro x hx1 hx2
    have e0 : x.tdiv 3 = x / 3 := Int.tdiv_eq_ediv_of_nonneg (by omega)
    have e : wquo .i64 x 3 = x / 3 := by unfold wquo; rw [e0, w64 (by omega) (by omega)]
    rw [e]; omega
  have q2 := q1 s.hold h3 h4
  have q3 := q1 e.n
  simp only [m42, m42_1, m42_2, m42_3, m42_4, m42_5, m42_6, m42_7, m42_8, m42_9, m42_10, m42_11, m42_12, m49, m60, e1, e2, e3, bnd_ok, sel2_eq, br_ite, bnd_ite, ans_ite, ans_some, eqI_iff, leI_iff, ltI_iff, goodS, List.length_nil, List.length_cons, Nat.zero_le, Nat.le_refl, true_and, Bool.not_eq_true']
  have hq : s.state = 0 ∨ s.state = 1 ∨ s.state = 2 ∨ s.state = 3 ∨ s.state = 4 := by omega
  rcases hq with hq | hq | hq | hq | hq <;> simp [hq] <;> grind
noncomputable def st (s : Session) (e : Evt) : Session × List Int := (m42 s e).getD (s, [])
def goodQ (q : List Int) : Prop := ∀ m ∈ q, 1 ≤ m ∧ m ≤ 4
theorem st_eq (s : Session) (e : Evt) (hs : goodS s) (he : goodE e) : m42 s e = some (st s e) ∧ m44 s e = some (st s e) ∧ (st s e).2.length ≤ 1 ∧ goodS (st s e).1 ∧ goodQ (st s e).2 := by
  obtain ⟨r, h, h1, h2, h3⟩ := step_some s e hs he
  have h' := step s e hs he
  have e0 : st s e = r := by unfold st; rw [h]; rfl
  rw [e0, ← h', h]
  refine ⟨rfl, rfl, h1, h2, ?_⟩
  intro m hm
  rcases h3 with h3 | h3 | h3 | h3 <;> rw [h3] at hm <;> simp at hm <;> omega
theorem tick (s : Session) : m49 s = m42 s ⟨10, 0⟩ := by
  simp only [m42, eqI_self, br_true, sel2_eq]
  cases m49 s with
  | none => rfl
  | some p => rfl
def evOf (m o : Int) : Evt := if m = 1 then ⟨5, o⟩ else if m = 4 then ⟨7, 0⟩ else if m = 2 then ⟨8, 0⟩ else ⟨9, 0⟩
theorem good_evOf (m o : Int) (h1 : 3 ≤ o) (h2 : o ≤ 90) : goodE (evOf m o) := by
  unfold evOf
  repeat' split
  all_goals (simp [goodE]; try omega)
noncomputable def come (s : Session) (q : List Int) (o : Int) : Session × List Int × List Int :=
  match q with
  | [] => (s, [], [])
  | m :: r => ((st s (evOf m o)).1, r, (st s (evOf m o)).2)
theorem take_all {α : Type} (l : List α) : l.take l.length = l := List.take_length
theorem p50 (s : Session) (q : List Int) (a o : Int) (hs : goodS s) (hq : goodQ q) (hl : q.length ≤ 1000) (h1 : 3 ≤ o) (h2 : o ≤ 90) : m50 ⟨s, q, a⟩ o = some (come s q o) := by
  unfold m50
  cases q with
  | nil => rfl
  | cons m r =>
    have hm := hq m (by simp)
    have e0 : eqI ((m :: r).length : Int) 0 = false := (eqI_not _ _).2 (by simp; omega)
    have i0 : idx (m :: r) 0 = some m := idx_get (i := 0) (by simp)
    obtain ⟨e1, _, e3, _⟩ := st_eq s (evOf m o) hs (good_evOf m o h1 h2)
    have hev : m50_1 o m (eqI m 1) ⟨9, 0⟩ = some (evOf m o) := by
      simp only [m50_1, m50_2, m50_3, bnd_ok, br_ite, bnd_ite, eqI_iff, evOf]
      repeat' split
      all_goals first | rfl | omega
    have c1 : 0 ≤ 1 ∧ (1 : Int) ≤ ((m :: r).length : Int) := ⟨by omega, by simp; omega⟩
    have hsel : ∀ {γ : Type} (f : Session → List Int → Option γ), sel2 (st s (evOf m o)) f = f (st s (evOf m o)).1 (st s (evOf m o)).2 := fun f => rfl
    have ht : ((m :: r).drop 1).take ((m :: r).length - 1) = r := by simp
    have c2 : 0 + r.length ≤ 4294967296 := by simp at hl ⊢; omega
    simp only [e0, br_false, i0, bnd_ok, ck_ok c1, ck_ok c2, hev, e1, hsel, ht]
    rfl
theorem p53 (s : Session) (a : Int) (q : List Int) (s' : Session) (b : Int) (q' : List Int) (e : Evt) (hs : goodS s) (he : goodE e) (hl : q'.length ≤ 1000) : m53 ⟨s, a, q⟩ ⟨s', b, q'⟩ e = some ((st s e).1, q' ++ (st s e).2) := by
  obtain ⟨_, e2, e3, _⟩ := st_eq s e hs he
  have hsel : ∀ {γ : Type} (f : Session → List Int → Option γ), sel2 (st s e) f = f (st s e).1 (st s e).2 := fun f => rfl
  have c : q'.length + (st s e).2.length ≤ 4294967296 := by omega
  simp only [m53, e2, bnd_ok, hsel, ck_ok c]
theorem p54 (s : Session) (a : Int) (q : List Int) (s' : Session) (b : Int) (q' : List Int) (hs : goodS s) (hq : goodQ q) (hl : q.length ≤ 1000) (hl' : q'.length ≤ 1000) (h1 : 3 ≤ b) (h2 : b ≤ 90) : m54 ⟨s, a, q⟩ ⟨s', b, q'⟩ = some ((come s q b).1, (come s q b).2.1, q' ++ (come s q b).2.2) := by
  unfold m54
  cases q with
  | nil => simp only [come, List.append_nil]; rfl
  | cons m r =>
    have hm := hq m (by simp)
    have e0 : eqI ((m :: r).length : Int) 0 = false := (eqI_not _ _).2 (by simp; omega)
    have i0 : idx (m :: r) 0 = some m := idx_get (i := 0) (by simp)
    have hev : m54_1 m (eqI m 1) ⟨s', b, q'⟩ ⟨0, 0⟩ = some (evOf m b) := by
      simp only [m54_1, m54_2, m54_3, m54_4, bnd_ok, br_ite, bnd_ite, eqI_iff, evOf]
      repeat' split
      all_goals first | rfl | omega
    have c1 : 0 ≤ 1 ∧ (1 : Int) ≤ ((m :: r).length : Int) := ⟨by omega, by simp; omega⟩
    have ht : ((m :: r).drop 1).take ((m :: r).length - 1) = r := by simp
    simp only [e0, br_false, i0, bnd_ok, ck_ok c1, hev, p53 s a _ s' b q' (evOf m b) hs (good_evOf m b h1 h2) hl', sel2_ok, ht]
    rfl
/-- Two sides. -/
structure Two where
  s1 : Session
  q1 : List Int
  s2 : Session
  q2 : List Int
noncomputable def go (a b k : Int) (X : Two) : Option Two :=
  if k = 0 then some ⟨(st X.s1 ⟨10, 0⟩).1, X.q1 ++ (st X.s2 ⟨10, 0⟩).2, (st X.s2 ⟨10, 0⟩).1, X.q2 ++ (st X.s1 ⟨10, 0⟩).2⟩
  else if k = 1 then some ⟨(come X.s1 X.q1 b).1, (come X.s1 X.q1 b).2.1, X.s2, X.q2 ++ (come X.s1 X.q1 b).2.2⟩
  else if k = 2 then some ⟨X.s1, X.q1 ++ (come X.s2 X.q2 a).2.2, (come X.s2 X.q2 a).1, (come X.s2 X.q2 a).2.1⟩
  else none
structure Inv (n : Nat) (X : Two) : Prop where
  s1 : goodS X.s1
  s2 : goodS X.s2
  q1 : goodQ X.q1
  q2 : goodQ X.q2
  l1 : X.q1.length ≤ n + 1
  l2 : X.q2.length ≤ n + 1
theorem goodQ_app {p q : List Int} (h : goodQ p) (k : goodQ q) : goodQ (p ++ q) := by
  intro m hm
  rcases List.mem_append.1 hm with hm | hm
  · exact h m hm
  · exact k m hm
theorem come_ok (s : Session) (q : List Int) (o : Int) (hs : goodS s) (hq : goodQ q) (h1 : 3 ≤ o) (h2 : o ≤ 90) : goodS (come s q o).1 ∧ goodQ (come s q o).2.1 ∧ (come s q o).2.1.length ≤ q.length ∧ goodQ (come s q o).2.2 ∧ (come s q o).2.2.length ≤ 1 := by
  cases q with
  | nil => exact ⟨hs, hq, Nat.le_refl _, hq, by simp [come]⟩
  | cons m r =>
    obtain ⟨_, _, e3, e4, e5⟩ := st_eq s (evOf m o) hs (good_evOf m o h1 h2)
    exact ⟨e4, fun x hx => hq x (by simp [show x ∈ r from hx]), by simp [come], e5, e3⟩
theorem good10 : goodE ⟨10, 0⟩ := by unfold goodE; simp
theorem go_inv {a b k : Int} {n : Nat} {X Y : Two} (ha : 3 ≤ a ∧ a ≤ 90) (hb : 3 ≤ b ∧ b ≤ 90) (h : Inv n X) (hg : go a b k X = some Y) : Inv (n + 1) Y := by
  unfold go at hg
  split at hg
  · cases hg
    obtain ⟨_, _, a3, a4, a5⟩ := st_eq X.s1 ⟨10, 0⟩ h.s1 good10
    obtain ⟨_, _, b3, b4, b5⟩ := st_eq X.s2 ⟨10, 0⟩ h.s2 good10
    exact ⟨a4, b4, goodQ_app h.q1 b5, goodQ_app h.q2 a5, by have := h.l1; simp; omega, by have := h.l2; simp; omega⟩
  · split at hg
    · cases hg
      obtain ⟨c1, c2, c3, c4, c5⟩ := come_ok X.s1 X.q1 b h.s1 h.q1 hb.1 hb.2
      exact ⟨c1, h.s2, c2, goodQ_app h.q2 c4, by have := h.l1; simp only []; omega, by have := h.l2; simp; omega⟩
    · split at hg
      · cases hg
        obtain ⟨c1, c2, c3, c4, c5⟩ := come_ok X.s2 X.q2 a h.s2 h.q2 ha.1 ha.2
        exact ⟨h.s1, c1, goodQ_app h.q1 c4, c2, by have := h.l1; simp; omega, by have := h.l2; simp only []; omega⟩
      · cases hg
noncomputable def run (a b : Int) : List Int → Two → Option Two
  | [], X => some X
  | k :: r, X => match go a b k X with
    | some Y => run a b r Y
    | none => none
def flat (X : Two) : Session × List Int × Session × List Int := (X.s1, X.q1, X.s2, X.q2)
theorem spec_one (a b k : Int) (r1 r2 : l12Side) (X : Two) (n : Nat) (hn : n ≤ 100) (h : Inv n X) (ha : 3 ≤ a ∧ a ≤ 90) (hb : 3 ≤ b ∧ b ≤ 90) :
    ∃ o, m31_5 a b k (eqI k 0) X.s1 r1 X.q1 X.s2 r2 X.q2 = some o ∧ match go a b k X with
      | none => o = .inr (⟨0, 0, 0, 0, 0⟩, ⟨0, 0, 0, 0, 0⟩)
      | some Y => ∃ p q tx ty, o = .inl (Y.s1, p, Y.s2, q, tx, ty) ∧ Y.q1 = p ++ tx ∧ Y.q2 = q ++ ty := by
  obtain ⟨a1, _, a3, a4, a5⟩ := st_eq X.s1 ⟨10, 0⟩ h.s1 good10
  obtain ⟨b1, _, b3, b4, b5⟩ := st_eq X.s2 ⟨10, 0⟩ h.s2 good10
  have l1 := h.l1
  have l2 := h.l2
  unfold go
  by_cases k0 : k = 0
  · have e : eqI k 0 = true := (eqI_iff _ _).2 k0
    have hs1 : ∀ {γ : Type} (f : Session → List Int → Option γ), sel2 (st X.s1 ⟨10, 0⟩) f = f (st X.s1 ⟨10, 0⟩).1 (st X.s1 ⟨10, 0⟩).2 := fun f => rfl
    have hs2 : ∀ {γ : Type} (f : Session → List Int → Option γ), sel2 (st X.s2 ⟨10, 0⟩) f = f (st X.s2 ⟨10, 0⟩).1 (st X.s2 ⟨10, 0⟩).2 := fun f => rfl
    rw [if_pos k0]
    simp only [m31_5, e, br_true, tick, a1, b1, bnd_ok, hs1, hs2]
    exact ⟨_, rfl, _, _, _, _, rfl, rfl, rfl⟩
  · have e : eqI k 0 = false := (eqI_not _ _).2 k0
    rw [if_neg k0]
    by_cases k1 : k = 1
    · have e1 : eqI k 1 = true := (eqI_iff _ _).2 k1
      have p := p50 X.s1 X.q1 r1.asks b h.s1 h.q1 (by omega) hb.1 hb.2
      have hs : ∀ {γ : Type} (f : Session → List Int → List Int → Option γ), sel3 (come X.s1 X.q1 b) f = f (come X.s1 X.q1 b).1 (come X.s1 X.q1 b).2.1 (come X.s1 X.q1 b).2.2 := fun f => rfl
      rw [if_pos k1]
      simp only [m31_5, m31_6, e, e1, br_true, br_false, p, bnd_ok, hs, selS_inl, sel6]
      exact ⟨_, rfl, _, _, _, _, rfl, by simp, rfl⟩
    · have e1 : eqI k 1 = false := (eqI_not _ _).2 k1
      rw [if_neg k1]
      by_cases k2 : k = 2
      · have e2 : eqI k 2 = true := (eqI_iff _ _).2 k2
        have p := p50 X.s2 X.q2 r2.asks a h.s2 h.q2 (by omega) ha.1 ha.2
        have hs : ∀ {γ : Type} (f : Session → List Int → List Int → Option γ), sel3 (come X.s2 X.q2 a) f = f (come X.s2 X.q2 a).1 (come X.s2 X.q2 a).2.1 (come X.s2 X.q2 a).2.2 := fun f => rfl
        rw [if_pos k2]
        simp only [m31_5, m31_6, e, e1, e2, br_true, br_false, p, bnd_ok, hs, selS_inl, sel6]
        exact ⟨_, rfl, _, _, _, _, rfl, rfl, by simp⟩
      · have e2 : eqI k 2 = false := (eqI_not _ _).2 k2
        rw [if_neg k2]
        simp only [m31_5, m31_6, e, e1, e2, br_false, bnd_ok, selS_inr, sel2]
        exact ⟨_, rfl, rfl⟩
theorem impl_one (a b k : Int) (X : Two) (n : Nat) (hn : n ≤ 100) (h : Inv n X) (ha : 3 ≤ a ∧ a ≤ 90) (hb : 3 ≤ b ∧ b ≤ 90) (hk : 0 ≤ k ∧ k ≤ 2) :
    ∃ Y, go a b k X = some Y ∧ m33_7 k (eqI k 0) X.s1 a X.q1 X.s2 b X.q2 = some (flat Y) := by
  have l1 := h.l1
  have l2 := h.l2
  unfold go
  by_cases k0 : k = 0
  · have e : eqI k 0 = true := (eqI_iff _ _).2 k0
    rw [if_pos k0]
    obtain ⟨_, _, a3, a4, a5⟩ := st_eq X.s1 ⟨10, 0⟩ h.s1 good10
    refine ⟨_, rfl, ?_⟩
    simp only [m33_7, e, br_true, p53 X.s1 a X.q1 X.s2 b X.q2 ⟨10, 0⟩ h.s1 good10 (by omega), bnd_ok, sel2_ok, p53 X.s2 b _ _ a X.q1 ⟨10, 0⟩ h.s2 good10 (by omega)]
    rfl
  · have e : eqI k 0 = false := (eqI_not _ _).2 k0
    rw [if_neg k0]
    by_cases k1 : k = 1
    · have e1 : eqI k 1 = true := (eqI_iff _ _).2 k1
      rw [if_pos k1]
      refine ⟨_, rfl, ?_⟩
      simp only [m33_7, m33_8, e, e1, br_true, br_false, p54 X.s1 a X.q1 X.s2 b X.q2 h.s1 h.q1 (by omega) (by omega) hb.1 hb.2, bnd_ok, sel3_ok, sel4_ok]
      rfl
    · have e1 : eqI k 1 = false := (eqI_not _ _).2 k1
      have k2 : k = 2 := by omega
      have e2 : eqI k 2 = true := (eqI_iff _ _).2 k2
      rw [if_neg k1, if_pos k2]
      refine ⟨_, rfl, ?_⟩
      simp only [m33_7, m33_8, m33_9, e, e1, e2, br_true, br_false, p54 X.s2 b X.q2 X.s1 a X.q1 h.s2 h.q2 (by omega) (by omega) ha.1 ha.2, bnd_ok, sel3_ok, sel4_ok]
      rfl
theorem spec_loop (a b : Int) (r1 r2 : l12Side) (l : List Int) (hl : l.length ≤ 100) (ha : 3 ≤ a ∧ a ≤ 90) (hb : 3 ≤ b ∧ b ≤ 90) : ∀ (n k : Nat) (X : Two), n + k = l.length → Inv k X →
    loopP (m31_2b a b l (l.length : Int) r1 r2) ((k : Int), X.s1, X.q1, X.s2, X.q2) = some (match run a b (l.drop k) X with | some Y => .inl (flat Y) | none => .inr (⟨0, 0, 0, 0, 0⟩, ⟨0, 0, 0, 0, 0⟩)) := by
  intro n
  induction n with
  | zero =>
    intro k X hk hi
    rw [List.drop_eq_nil_of_le (by omega)]
    refine loopP_out ?_
    simp only [m31_2b, sel5, (ltI_not (k : Int) (l.length : Int)).2 (by omega), br_false]
    rfl
  | succ n ih =>
    intro k X hk hi
    have h : k < l.length := by omega
    rw [List.drop_eq_getElem_cons h, run]
    obtain ⟨o, ho, hm⟩ := spec_one a b l[k] r1 r2 X k (by omega) hi ha hb
    cases hg : go a b l[k] X with
    | none =>
      rw [hg] at hm
      simp only at hm
      subst hm
      refine loopP_out ?_
      simp only [m31_2b, sel5, (ltI_iff (k : Int) (l.length : Int)).2 (by omega), br_true, idx_get h, bnd_ok, ho, selS_inr, sel2]
    | some Y =>
      rw [hg] at hm
      obtain ⟨p, q, tx, ty, rfl, hp, hq⟩ := hm
      have hY := go_inv ha hb hi hg
      have y1 := hY.l1
      have y2 := hY.l2
      rw [hp] at y1
      rw [hq] at y2
      simp only [List.length_append] at y1 y2
      simp only []
      rw [← ih (k + 1) Y (by omega) hY]
      refine loopP_nxt ?_
      simp only [m31_2b, sel5, (ltI_iff (k : Int) (l.length : Int)).2 (by omega), br_true, idx_get h, bnd_ok, ho, selS_inl, sel6, ck_ok (show p.length + tx.length ≤ 4294967296 by omega), ck_ok (show q.length + ty.length ≤ 4294967296 by omega), wsucc h (by omega), hp, hq]
theorem impl_loop (a b : Int) (l : List Int) (hl : l.length ≤ 100) (ha : 3 ≤ a ∧ a ≤ 90) (hb : 3 ≤ b ∧ b ≤ 90) (hg : ∀ k ∈ l, 0 ≤ k ∧ k ≤ 2) : ∀ (n k : Nat) (X : Two), n + k = l.length → Inv k X →
    ∃ Y, run a b (l.drop k) X = some Y ∧ loopP (m33_3b l (l.length : Int) a b) ((k : Int), X.s1, X.q1, X.s2, X.q2) = some (flat Y) := by
  intro n
  induction n with
  | zero =>
    intro k X hk hi
    rw [List.drop_eq_nil_of_le (by omega)]
    refine ⟨_, rfl, loopP_out ?_⟩
    simp only [m33_3b, sel5, (ltI_not (k : Int) (l.length : Int)).2 (by omega), br_false]
    rfl
  | succ n ih =>
    intro k X hk hi
    have h : k < l.length := by omega
    obtain ⟨Y, y1, y2⟩ := impl_one a b l[k] X k (by omega) hi ha hb (hg _ (List.getElem_mem h))
    have hY := go_inv ha hb hi y1
    obtain ⟨Z, z1, z2⟩ := ih (k + 1) Y (by omega) hY
    refine ⟨Z, ?_, ?_⟩
    · rw [List.drop_eq_getElem_cons h, run, y1]; exact z1
    · rw [← z2]
      refine loopP_nxt ?_
      simp only [m33_3b, sel5, (ltI_iff (k : Int) (l.length : Int)).2 (by omega), br_true, idx_get h, bnd_ok, y2, flat, sel4, wsucc h (by omega)]
theorem run_bad (a b : Int) : ∀ (l : List Int) (X : Two), (∃ k ∈ l, ¬ (0 ≤ k ∧ k ≤ 2)) → run a b l X = none := by
  intro l
  induction l with
  | nil => rintro X ⟨k, hk, _⟩; cases hk
  | cons k r ih =>
    rintro X ⟨x, hx, hb⟩
    rw [run]
    cases hg : go a b k X with
    | none => rfl
    | some Y =>
      refine ih Y ?_
      rcases List.mem_cons.1 hx with rfl | hx
      · exfalso
        unfold go at hg
        rw [if_neg (by omega), if_neg (by omega), if_neg (by omega)] at hg
        cases hg
      · exact ⟨x, hx, hb⟩
theorem p40 (a x y : Int) : m40 a x y = some (decide (x ≤ a ∧ a ≤ y)) := by
  simp only [m40, m40_1, bnd_ok, br_bool]
  rw [Option.some.injEq, Bool.eq_iff_iff, decide_eq_true_eq]
  simp only [Bool.and_eq_true, Bool.or_eq_true, Bool.not_eq_true', leI_iff, ltI_iff, leI_not, and_false, or_false, Bool.false_eq_true]
theorem p39 (a x y : Int) : m39 a x y = some (decide (x ≤ a ∧ a ≤ y)) := p40 a x y
theorem p51 (l : List Int) (hl : l.length ≤ 100) : m51 l (fun y0 => m52 y0) = some (l.any fun k => !decide (0 ≤ k ∧ k ≤ 2)) := by
  simp only [m51, m64, indexFunc (body := m64_1b l (l.length : Int) (fun y0 => m52 y0)) (f := fun y0 => m52 y0) l (fun k => !decide (0 ≤ k ∧ k ≤ 2)) (fun x _ => by simp only [m52, p40, bnd_ok]) (by omega) (fun s => rfl), bnd_ok, containsFunc]
theorem begin1 (a : Int) (ha : 3 ≤ a ∧ a ≤ 90) : m42 ⟨0, a, 0, 0, 0⟩ ⟨1, 0⟩ = some (⟨1, a, 0, 0, 0⟩, []) ∧ m42 ⟨1, a, 0, 0, 0⟩ ⟨3, 0⟩ = some (⟨2, a, 90, 0, 0⟩, [1]) := by
  constructor <;> (simp only [m42, m42_1, m42_2, m60, bnd_ok, br_ite, bnd_ite, eqI_iff]; simp)
theorem good0 (a : Int) (ha : 3 ≤ a ∧ a ≤ 90) : goodS ⟨0, a, 0, 0, 0⟩ ∧ goodS ⟨1, a, 0, 0, 0⟩ ∧ goodS ⟨2, a, 90, 0, 0⟩ := by
  unfold goodS; simp; omega
theorem gE1 : goodE ⟨1, 0⟩ ∧ goodE ⟨3, 0⟩ := by unfold goodE; simp
theorem impl_begin (a b : Int) (ha : 3 ≤ a ∧ a ≤ 90) (hb : 3 ≤ b ∧ b ≤ 90) : loopP (m33_2b a b [1, 3]) (0, ⟨0, a, 0, 0, 0⟩, [], ⟨0, b, 0, 0, 0⟩, []) = some (⟨2, a, 90, 0, 0⟩, [1], ⟨2, b, 90, 0, 0⟩, [1]) := by
  obtain ⟨a1, a2⟩ := begin1 a ha
  obtain ⟨b1, b2⟩ := begin1 b hb
  obtain ⟨ga0, ga1, ga2⟩ := good0 a ha
  obtain ⟨gb0, gb1, gb2⟩ := good0 b hb
  have sa1 : st ⟨0, a, 0, 0, 0⟩ ⟨1, 0⟩ = (⟨1, a, 0, 0, 0⟩, []) := by unfold st; rw [a1]; rfl
  have sa2 : st ⟨1, a, 0, 0, 0⟩ ⟨3, 0⟩ = (⟨2, a, 90, 0, 0⟩, [1]) := by unfold st; rw [a2]; rfl
  have sb1 : st ⟨0, b, 0, 0, 0⟩ ⟨1, 0⟩ = (⟨1, b, 0, 0, 0⟩, []) := by unfold st; rw [b1]; rfl
  have sb2 : st ⟨1, b, 0, 0, 0⟩ ⟨3, 0⟩ = (⟨2, b, 90, 0, 0⟩, [1]) := by unfold st; rw [b2]; rfl
  have i0 : idx [(1 : Int), 3] 0 = some 1 := idx_get (i := 0) (by simp)
  have i1 : idx [(1 : Int), 3] 1 = some 3 := idx_get (i := 1) (by simp)
  have w0 : wadd .i64 0 1 = 1 := wadd64 (by omega) (by omega)
  have w1 : wadd .i64 1 1 = 2 := wadd64 (by omega) (by omega)
  rw [loopP_nxt (s' := (1, ⟨1, a, 0, 0, 0⟩, [], ⟨1, b, 0, 0, 0⟩, []))]
  · rw [loopP_nxt (s' := (2, ⟨2, a, 90, 0, 0⟩, [1], ⟨2, b, 90, 0, 0⟩, [1]))]
    · refine loopP_out ?_
      simp only [m33_2b, sel5, (ltI_not 2 2).2 (by omega), br_false]
    · simp only [m33_2b, sel5, (ltI_iff 1 2).2 (by omega), br_true, i1, bnd_ok, p53 ⟨1, a, 0, 0, 0⟩ a [] ⟨1, b, 0, 0, 0⟩ b [] ⟨3, 0⟩ ga1 gE1.2 (by simp), sel2_ok, p53 ⟨1, b, 0, 0, 0⟩ b _ _ a [] ⟨3, 0⟩ gb1 gE1.2 (by simp), sa2, sb2, w1, List.nil_append]
  · simp only [m33_2b, sel5, (ltI_iff 0 2).2 (by omega), br_true, i0, bnd_ok, p53 ⟨0, a, 0, 0, 0⟩ a [] ⟨0, b, 0, 0, 0⟩ b [] ⟨1, 0⟩ ga0 gE1.1 (by simp), sel2_ok, p53 ⟨0, b, 0, 0, 0⟩ b _ _ a [] ⟨1, 0⟩ gb0 gE1.1 (by simp), sa1, sb1, w0, List.nil_append]
theorem side1 (a : Int) (ha : 3 ≤ a ∧ a ≤ 90) : m48 a = some ⟨⟨2, a, 90, 0, 0⟩, [], a⟩ := by
  obtain ⟨a1, a2⟩ := begin1 a ha
  simp only [m48, m11, p39, bnd_ok, decide_eq_true ha, br_true, sel2_ok, a1, a2]
/-- What a side's hold is: what it asked for, or the lesser of both; that from state 3 on. -/
def Least (a o h : Int) : Prop := h ≤ a ∧ h ≤ o ∧ (h = a ∨ h = o)
def Held (a o : Int) (s : Session) : Prop := (s.hold = a ∨ Least a o s.hold) ∧ (3 ≤ s.state → Least a o s.hold)
theorem step_held (s : Session) (e : Evt) (a o : Int) (hs : goodS s) (he : goodE e) (h5 : e.kind = 5 → e.n = o) (hp : Held a o s) : Ans (fun r => Held a o r.1) (m42 s e) := by
  obtain ⟨h1, h2, h3, h4, h5', h6, h7, h8, h9, h10⟩ := hs
  obtain ⟨g1, g2, g3, g4⟩ := he
  unfold Held Least at hp
  simp only [m42, m42_1, m42_2, m42_3, m42_4, m42_5, m42_6, m42_7, m42_8, m42_9, m42_10, m42_11, m42_12, m49, m60, bnd_ok, sel2_eq, br_ite, bnd_ite, ans_ite, ans_some, eqI_iff, leI_iff, ltI_iff, Held, Least, Bool.not_eq_true']
  have hq : s.state = 0 ∨ s.state = 1 ∨ s.state = 2 ∨ s.state = 3 ∨ s.state = 4 := by omega
  rcases hq with hq | hq | hq | hq | hq <;> simp [hq] <;> grind
theorem st_held (s : Session) (e : Evt) (a o : Int) (hs : goodS s) (he : goodE e) (h5 : e.kind = 5 → e.n = o) (hp : Held a o s) : Held a o (st s e).1 := by
  obtain ⟨r, h, h1⟩ := step_held s e a o hs he h5 hp
  unfold st; rw [h]; exact h1
theorem come_held (s : Session) (q : List Int) (a o : Int) (hs : goodS s) (h1 : 3 ≤ o) (h2 : o ≤ 90) (hp : Held a o s) : Held a o (come s q o).1 := by
  cases q with
  | nil => exact hp
  | cons m r =>
    refine st_held s (evOf m o) a o hs (good_evOf m o h1 h2) (fun h => ?_) hp
    unfold evOf at h ⊢
    repeat' split
    all_goals simp_all
theorem go_held {a b k : Int} {n : Nat} {X Y : Two} (ha : 3 ≤ a ∧ a ≤ 90) (hb : 3 ≤ b ∧ b ≤ 90) (h : Inv n X) (h1 : Held a b X.s1) (h2 : Held b a X.s2) (hg : go a b k X = some Y) : Held a b Y.s1 ∧ Held b a Y.s2 := by
  unfold go at hg
  split at hg
  · cases hg
    exact ⟨st_held _ _ _ _ h.s1 good10 (by simp) h1, st_held _ _ _ _ h.s2 good10 (by simp) h2⟩
  · split at hg
    · cases hg
      exact ⟨come_held _ _ _ _ h.s1 hb.1 hb.2 h1, h2⟩
    · split at hg
      · cases hg
        exact ⟨h1, come_held _ _ _ _ h.s2 ha.1 ha.2 h2⟩
      · cases hg
theorem run_held {a b : Int} (ha : 3 ≤ a ∧ a ≤ 90) (hb : 3 ≤ b ∧ b ≤ 90) : ∀ (l : List Int) (n : Nat) (X Y : Two), Inv n X → Held a b X.s1 → Held b a X.s2 → run a b l X = some Y → goodS Y.s1 ∧ goodS Y.s2 ∧ Held a b Y.s1 ∧ Held b a Y.s2 := by
  intro l
  induction l with
  | nil => intro n X Y hi h1 h2 h; simp only [run, Option.some.injEq] at h; subst h; exact ⟨hi.s1, hi.s2, h1, h2⟩
  | cons k r ih =>
    intro n X Y hi h1 h2 h
    rw [run] at h
    cases hg : go a b k X with
    | none => rw [hg] at h; cases h
    | some Z =>
      rw [hg] at h
      obtain ⟨k1, k2⟩ := go_held ha hb hi h1 h2 hg
      exact ih (n + 1) Z Y (go_inv ha hb hi hg) k1 k2 h
def X0 (a b : Int) : Two := ⟨⟨2, a, 90, 0, 0⟩, [1], ⟨2, b, 90, 0, 0⟩, [1]⟩
theorem inv0 (a b : Int) (ha : 3 ≤ a ∧ a ≤ 90) (hb : 3 ≤ b ∧ b ≤ 90) : Inv 0 (X0 a b) := ⟨(good0 a ha).2.2, (good0 b hb).2.2, by intro m hm; simp [X0] at hm; omega, by intro m hm; simp [X0] at hm; omega, by simp [X0], by simp [X0]⟩
theorem good_run (a b : Int) (l : List Int) (ha : 3 ≤ a ∧ a ≤ 90) (hb : 3 ≤ b ∧ b ≤ 90) (hl : l.length ≤ 100) (hg : ∀ k ∈ l, 0 ≤ k ∧ k ≤ 2) :
    ∃ Y, run a b l (X0 a b) = some Y ∧ m31 a b l = some (Y.s1, Y.s2, true) ∧ m33 a b l = some (Y.s1, Y.s2, true) := by
  have hn : ltI 100 (l.length : Int) = false := (ltI_not _ _).2 (by omega)
  have hi := inv0 a b ha hb
  have hs := spec_loop a b ⟨⟨2, a, 90, 0, 0⟩, [], a⟩ ⟨⟨2, b, 90, 0, 0⟩, [], b⟩ l hl ha hb l.length 0 _ (by omega) hi
  rw [List.drop_zero] at hs
  have hs' : loopP (m31_2b a b l (l.length : Int) ⟨⟨2, a, 90, 0, 0⟩, [], a⟩ ⟨⟨2, b, 90, 0, 0⟩, [], b⟩) (0, ⟨2, a, 90, 0, 0⟩, [1], ⟨2, b, 90, 0, 0⟩, [1]) = _ := hs
  have hi0 : (l.any fun k => !decide (0 ≤ k ∧ k ≤ 2)) = false := by cases h : (l.any fun k => !decide (0 ≤ k ∧ k ≤ 2)) with | false => rfl | true => (obtain ⟨e, he, hn⟩ := List.any_eq_true.1 h; rw [decide_eq_true (hg e he)] at hn; cases hn)
  obtain ⟨Y, y1, y2⟩ := impl_loop a b l hl ha hb hg l.length 0 _ (by omega) hi
  rw [List.drop_zero] at y1
  rw [y1] at hs'
  have y2' : loopP (m33_3b l (l.length : Int) a b) (0, ⟨2, a, 90, 0, 0⟩, [1], ⟨2, b, 90, 0, 0⟩, [1]) = _ := y2
  refine ⟨Y, y1, ?_, ?_⟩
  · simp only [m31, m31_1, p39, bnd_ok, decide_eq_true ha, decide_eq_true hb, br_true, hn, br_false, side1 a ha, side1 b hb, hs', selS_inl, flat, sel4_ok]
  · simp only [m33, m33_1, m12, p40, bnd_ok, decide_eq_true ha, decide_eq_true hb, br_true, sel2_ok, hn, br_false, p51 l hl, hi0, impl_begin a b ha hb, sel4_ok, y2', flat]
theorem bad_run (a b : Int) (l : List Int) (h : ¬ ((3 ≤ a ∧ a ≤ 90) ∧ (3 ≤ b ∧ b ≤ 90) ∧ l.length ≤ 100 ∧ ∀ k ∈ l, 0 ≤ k ∧ k ≤ 2)) :
    m31 a b l = some (⟨0, 0, 0, 0, 0⟩, ⟨0, 0, 0, 0, 0⟩, false) ∧ m33 a b l = some (⟨0, 0, 0, 0, 0⟩, ⟨0, 0, 0, 0, 0⟩, false) := by
  simp only [m31, m33, m31_1, m33_1, m12, p39, p40, bnd_ok]
  by_cases ha : 3 ≤ a ∧ a ≤ 90
  rotate_left
  · simp only [decide_eq_false ha, br_false, br_true, bnd_ok, sel2_ok]
    cases hd : decide (3 ≤ b ∧ b ≤ 90) <;> simp only [br_false, br_true, bnd_ok, sel2_ok] <;> exact ⟨trivial, trivial⟩
  by_cases hb : 3 ≤ b ∧ b ≤ 90
  rotate_left
  · simp only [decide_eq_false hb, decide_eq_true ha, br_false, br_true, bnd_ok, sel2_ok]
    exact ⟨trivial, trivial⟩
  simp only [decide_eq_true ha, decide_eq_true hb, br_true, bnd_ok, sel2_ok]
  by_cases hl : l.length ≤ 100
  rotate_left
  · have hn : ltI 100 (l.length : Int) = true := (ltI_iff _ _).2 (by omega)
    simp only [hn, br_true, bnd_ok]
    exact ⟨trivial, trivial⟩
  have hn : ltI 100 (l.length : Int) = false := (ltI_not _ _).2 (by omega)
  have hi := inv0 a b ha hb
  have hs := spec_loop a b ⟨⟨2, a, 90, 0, 0⟩, [], a⟩ ⟨⟨2, b, 90, 0, 0⟩, [], b⟩ l hl ha hb l.length 0 _ (by omega) hi
  rw [List.drop_zero] at hs
  have hs' : loopP (m31_2b a b l (l.length : Int) ⟨⟨2, a, 90, 0, 0⟩, [], a⟩ ⟨⟨2, b, 90, 0, 0⟩, [], b⟩) (0, ⟨2, a, 90, 0, 0⟩, [1], ⟨2, b, 90, 0, 0⟩, [1]) = _ := hs
  simp only [hn, br_false, bnd_ok, p51 l hl, side1 a ha, side1 b hb, impl_begin a b ha hb, sel4_ok]
  have hbad : ∃ k ∈ l, ¬ (0 ≤ k ∧ k ≤ 2) := Classical.byContradiction fun hc => h ⟨ha, hb, hl, fun k hk => Classical.byContradiction fun hk2 => hc ⟨k, hk, hk2⟩⟩
  have hi0 : (l.any fun k => !decide (0 ≤ k ∧ k ≤ 2)) = true := by obtain ⟨e, he, hn⟩ := hbad; exact List.any_eq_true.2 ⟨e, he, by rw [decide_eq_false hn]; rfl⟩
  rw [run_bad a b l _ hbad] at hs'
  simp only [hs', hi0, br_true, bnd_ok, selS_inr, sel2_ok]
  exact ⟨trivial, trivial⟩
theorem p16 (s : Session) (h : goodS s) : m16 s = some true := by
  obtain ⟨h1, h2, h3, h4, h5, h6, h7, h8, h9, h10⟩ := h
  have e1 : decide (0 ≤ s.state ∧ s.state ≤ 4) = true := decide_eq_true ⟨h1, h2⟩
  have e2 : decide (3 ≤ s.hold ∧ s.hold ≤ 90) = true := decide_eq_true ⟨h3, h4⟩
  have e3 : decide (0 ≤ s.ups ∧ s.ups ≤ 1000) = true := decide_eq_true ⟨h5, h6⟩
  simp only [m16, m16_1, m16_2, m16_3, m16_4, p40, bnd_ok, e1, e2, e3, br_true, br_false, Bool.not_true]
  by_cases c2 : 2 ≤ s.state
  · rw [(leI_iff _ _).2 c2]
    have e4 : decide (1 ≤ s.left ∧ s.left ≤ 90) = true := decide_eq_true (h8 c2)
    by_cases c3 : 3 ≤ s.state
    · rw [(leI_iff _ _).2 c3]
      have e5 : decide (1 ≤ s.quiet ∧ s.quiet ≤ 30) = true := decide_eq_true (h10 c3)
      simp only [br_true, bnd_ok, e4, e5]
    · rw [(leI_not _ _).2 (by omega), (eqI_iff s.quiet 0).2 (h9 (by omega))]
      simp only [br_true, br_false, bnd_ok, e4]
  · rw [(leI_not 2 _).2 (by omega), (leI_not 3 _).2 (by omega), (eqI_iff s.quiet 0).2 (h9 (by omega)), (eqI_iff s.left 0).2 (h7 (by omega))]
    simp only [br_true, br_false, bnd_ok]
/-! ### Without ticks both come up -/
def least (a b : Int) : Int := if b < a then b else a
theorem up1 (a b : Int) (ha : 3 ≤ a ∧ a ≤ 90) (hb : 3 ≤ b ∧ b ≤ 90) : st ⟨2, a, 90, 0, 0⟩ (evOf 1 b) = (⟨3, least a b, least a b, wquo .i64 (least a b) 3, 0⟩, [4]) := by
  have e : m42 ⟨2, a, 90, 0, 0⟩ (evOf 1 b) = some (⟨3, least a b, least a b, wquo .i64 (least a b) 3, 0⟩, [4]) := by
    simp only [evOf, if_true, m42, m42_1, m42_2, m42_3, m42_4, m42_5, m42_6, m42_7, bnd_ok, br_ite, bnd_ite, eqI_iff, leI_iff, ltI_iff, least]
    simp
    by_cases c : b < a <;> simp [c, hb.1]
  unfold st; rw [e]; rfl
theorem up2 (h q b : Int) : st ⟨3, h, h, q, 0⟩ (evOf 4 b) = (⟨4, h, h, q, 1⟩, []) := by
  have e3 : wadd .i64 0 1 = 1 := wadd64 (by omega) (by omega)
  have e : m42 ⟨3, h, h, q, 0⟩ (evOf 4 b) = some (⟨4, h, h, q, 1⟩, []) := by
    simp only [evOf, m42, m42_1, m42_2, m42_3, m42_4, m42_5, m42_6, m42_7, m42_8, m42_9, m42_10, m42_11, m42_12, bnd_ok, br_ite, bnd_ite, eqI_iff, leI_iff, ltI_iff, e3]
    simp
  unfold st; rw [e]; rfl
theorem ups (a b : Int) (ha : 3 ≤ a ∧ a ≤ 90) (hb : 3 ≤ b ∧ b ≤ 90) : ∃ Y, run a b [1, 2, 1, 2] (X0 a b) = some Y ∧ Y.s1.state = 4 ∧ Y.s2.state = 4 ∧ Y.s1.ups = 1 ∧ Y.s2.ups = 1 := by
  have u1 := up1 a b ha hb
  have u2 := up1 b a hb ha
  simp [run, go, come, X0, u1, u2, up2]
/-! ### What is drawn -/
theorem pairs (code : List Int) (hb : ∀ y ∈ code, 0 ≤ y ∧ y ≤ 255) : Ans (fun r => True) (m34 code) := by
  unfold m34
  refine ans_bnd (cPick code 0 0 30 (by omega) (by omega) hb) fun r hr => ?_
  obtain ⟨n, a1, s1⟩ := r
  simp only [sel3_ok] at hr ⊢
  refine ans_bnd (cOne code a1 s1 20 (by omega) (by omega) hb) fun r hr2 => ?_
  obtain ⟨o, a2, s2⟩ := r
  simp only [sel3_ok] at hr2 ⊢
  have h3 : Ans (fun r => 0 ≤ r.1 ∧ r.1 ≤ 101 ∧ 0 ≤ r.2.1 ∧ r.2.1 ≤ 10) (m34_1 n o code a2 s2) := by
    unfold m34_1
    rw [ans_br]
    refine ⟨fun _ => ?_, fun _ => (ans_some _ _).2 (by simp only []; omega)⟩
    refine ans_bnd (cPick code a2 s2 2 (by omega) (by omega) hb) fun r hr => ?_
    obtain ⟨x, b, t⟩ := r
    simp only [sel3_ok] at hr ⊢
    rw [ans_some]
    have e : wadd .i64 100 x = 100 + x := wadd64 (by omega) (by omega)
    simp only [e]
    omega
  refine ans_bnd h3 fun r hr3 => ?_
  obtain ⟨m, a3, s3⟩ := r
  simp only [sel3_ok] at hr3 ⊢
  have hloop : ∀ (k : Nat) (at_ seed : Int) (l : List Int), k ≤ 101 → l.length ≤ 101 - k → 0 ≤ at_ → at_ ≤ 1000 - 2 * k →
      Ans (fun r => 0 ≤ r.1 ∧ r.1 ≤ 1000) (loopP (m34_2b code) ((k : Int), at_, seed, l)) := by
    intro k
    induction k with
    | zero =>
      intro at_ seed l hk hl h0 h1
      refine ⟨_, loopP_out (b := (at_, seed, l)) (by simp only [m34_2b, sel4]; rw [(ltI_not _ _).2 (by omega), br_false]), h0, by simp only []; omega⟩
    | succ k ih =>
      intro at_ seed l hk hl h0 h1
      obtain ⟨r, e, hr⟩ := cAmong code at_ seed [0, 1, 1, 2, 2] h0 (by omega) hb (by simp)
      obtain ⟨x, a', s'⟩ := r
      simp only at hr
      have ek : wsub .i64 ((k + 1 : Nat) : Int) 1 = (k : Int) := by rw [wsub64 (by omega) (by omega)]; omega
      rw [loopP_nxt (s' := ((k : Int), a', s', l ++ [x]))]
      · exact ih a' s' (l ++ [x]) (by omega) (by simp; omega) (by omega) (by omega)
      · simp only [m34_2b, sel4, (ltI_iff 0 ((k + 1 : Nat) : Int)).2 (by omega), br_true, e, bnd_ok, sel3_ok, ck_ok (show l.length + 1 ≤ 4294967296 by omega), ek]
  obtain ⟨k, rfl⟩ := Int.eq_ofNat_of_zero_le hr3.1
  refine ans_bnd (hloop k a3 s3 [] (by omega) (by simp) hr3.2.2.1 (by omega)) fun r hr4 => ?_
  obtain ⟨a4, s4, l⟩ := r
  simp only [sel3_ok] at hr4 ⊢
  have h5 : Ans (fun r => 0 ≤ r.2.1 ∧ r.2.1 ≤ 1002 ∧ (r.1 = true → 0 < l.length)) (m34_3 code a4 s4 l) := by
    unfold m34_3
    rw [ans_br]
    refine ⟨fun h => ?_, fun _ => (ans_some _ _).2 ⟨hr4.1, by simp only []; omega, fun h => by cases h⟩⟩
    refine ans_bnd (cOne code a4 s4 30 (by omega) (by omega) hb) fun r hr => ?_
    obtain ⟨x, b, t⟩ := r
    simp only [sel3_ok] at hr ⊢
    rw [ans_some]
    have := (ltI_iff _ _).1 h
    exact ⟨by simp only []; omega, by simp only []; omega, fun _ => by omega⟩
  refine ans_bnd h5 fun r hr5 => ?_
  obtain ⟨o, a5, s5⟩ := r
  simp only [sel3_ok] at hr5 ⊢
  have h6 : Ans (fun r => True) (m34_4 o l) := by
    unfold m34_4
    rw [ans_br]
    refine ⟨fun h => ?_, fun _ => (ans_some _ _).2 trivial⟩
    have hl := hr5.2.2 h
    have e : idx l 0 = some l[0] := idx_get (i := 0) hl
    rw [e, bnd_ok]
    exact (ans_some _ _).2 trivial
  refine ans_bnd h6 fun l' _ => ?_
  refine ans_bnd (cAmong code a5 s5 [3, 9, 30, 90, 2] (by omega) (by omega) hb (by simp)) fun r hr => ?_
  obtain ⟨x, a6, s6⟩ := r
  simp only [sel3_ok] at hr ⊢
  refine ans_bnd (cAmong code a6 s6 [3, 9, 30, 90] (by omega) (by omega) hb (by simp)) fun r hr' => ?_
  exact (ans_some _ _).2 trivial
theorem law (code : List Int) (hc : wfLIntu8 code) : m9 code = some true := by
  unfold m9
  cases hl : ltI 1048576 (code.length : Int) with
  | true => rfl
  | false =>
    rw [br_false]
    obtain ⟨⟨a, b, l⟩, e, _⟩ := pairs code (fun y hy => hc.2 y hy)
    rw [e, bnd_ok, sel3_ok]
    by_cases h : (3 ≤ a ∧ a ≤ 90) ∧ (3 ≤ b ∧ b ≤ 90) ∧ l.length ≤ 100 ∧ ∀ k ∈ l, 0 ≤ k ∧ k ≤ 2
    · obtain ⟨ha, hb, hl, hg⟩ := h
      obtain ⟨Y, y1, y2, y3⟩ := good_run a b l ha hb hl hg
      obtain ⟨Z, z1, z2, z3⟩ := good_run a b [1, 2, 1, 2] ha hb (by simp) (by intro k hk; simp at hk; omega)
      obtain ⟨W, w1, w2, w3, w4, w5⟩ := ups a b ha hb
      rw [w1] at z1; cases z1
      obtain ⟨k1, k2, k3, k4⟩ := run_held ha hb l 0 (X0 a b) Y (inv0 a b ha hb) (by simp [X0, Held]) (by simp [X0, Held]) y1
      have e9 : m9_2 a b (ltI b a) = some (least a b) := by simp only [m9_2, br_ite, ltI_iff, least]; split <;> rfl
      have l1 : Y.s1.state = 4 → Y.s1.hold = least a b := by
        intro h4
        have := k3.2 (by omega)
        unfold Least at this; unfold least
        split <;> omega
      have l2 : Y.s2.state = 4 → Y.s2.hold = least a b := by
        intro h4
        have := k4.2 (by omega)
        unfold Least at this; unfold least
        split <;> omega
      have e3 : m9_3 (least a b) Y.s1 Y.s2 = some false := by
        simp only [m9_3, p16 Y.s1 k1, p16 Y.s2 k2, bnd_ok, br_true]
        by_cases c1 : Y.s1.state = 4
        · by_cases c2 : Y.s2.state = 4
          · simp only [(eqI_iff _ _).2 c1, (eqI_iff _ _).2 c2, br_true, l1 c1, l2 c2, eqI_self, Bool.not_true]
          · simp only [(eqI_iff _ _).2 c1, (eqI_not _ _).2 c2, br_true, br_false, l1 c1, eqI_self]
        · by_cases c2 : Y.s2.state = 4
          · simp only [(eqI_not _ _).2 c1, (eqI_iff _ _).2 c2, br_true, br_false, l2 c2, eqI_self, Bool.not_true]
          · simp only [(eqI_not _ _).2 c1, (eqI_not _ _).2 c2, br_false]
      simp only [y2, y3, bnd_ok, sel3_ok, m9_1, eqB_self, br_true, eqI_self, Bool.and_self, Bool.not_true, br_false, e9, e3, z3, m9_4, w2, w3, w4, w5]
    · obtain ⟨h1, h2⟩ := bad_run a b l h
      simp only [h1, h2, bnd_ok, sel3_ok, m9_1, eqB_self, br_true, eqI_self, Bool.and_self, Bool.not_true, br_false]
end Go.Pi.Ytcihklkihglmjaa.Pair
